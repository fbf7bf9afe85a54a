/- Loops with an invariant: the state at a loop's head, and when a state is one of its instances. -/
import Derived.Test.YtelbilnnmmbmdaaDoorVdU
import Derived.Laws.Cover3
import Derived.LoopNIn
import Derived.Scope
namespace Go.Proofs.YtelbilnnmmbmdaaDoor
namespace Vc
open Go Go.RowKit
set_option linter.unusedVariables false
def Tms.allB (f : Tm → Bool) (tm : Tms) : Nat → Bool
 | 0 => true
 | n + 1 => (match tm.t.get n with | some x => f x | none => true) && tm.allB f n
theorem Tms.allB_ok {f : Tm → Bool} {tm : Tms} : ∀ {n d : Nat} {x : Tm}, tm.allB f n = true → d < n → tm.t.get d = some x → f x = true
 | n + 1, d, x, h, hd, hx => by
  simp only [Tms.allB, Bool.and_eq_true] at h
  by_cases hn : d = n
  ·subst hn; rw [hx] at h; exact h.1
  ·exact Tms.allB_ok h.2 (by omega) hx
def Tms.av (p : Nat → Bool) (m : Nat) (tm : Tms) : Bool := tm.allB (Tm.av p m) tm.n
def HE.av (p : Nat → Bool) (m : Nat) (h : HE) : Bool := match h.k with
 | .cells cs => cs.all (SC.av p m)
 | .row _ R n _ => R.blw m && n.blw m
 | .grow _ cs => cs.all (SC.av p m)
 | .iter s q _ => s.blw m && q.blw m
 | .mset R n _ => R.blw m && n.blw m
 | .farr l o => p l && (match o with | none => true | some e => e.blw m)
 | .fam _ Q _ _ => Q.blw m
 | _ => true
section
variable {P : Program} {p : Nat → Bool} {m B : Nat} {ρ ρ' : Env} {w0 w : World} {ls ls' : Ls} {hp : SH} {tm : Tms} {a : Act}
theorem RTm.move (hM : Moved p m ρ ρ' ls ls') (ht : tm.av p m = true) (hr : RTm ρ ls tm a) : RTm ρ' ls' tm a :=
 ⟨hr.1, fun d t hd hg => RT.move hM (Tms.allB_ok ht hd hg) (hr.2 d t hd hg)⟩
def It.av (p : Nat → Bool) (m : Nat) : It → Bool
 | .val t => t.av p m
 | _ => false
theorem LstR.move {ops : Array Oper} {its : List It} {L : Array Bool} {n : Nat} (hM : Moved p m ρ ρ' ls ls') (ht : tm.av p m = true) (hi : its.all (It.av p m) = true) (h : LstR ρ ls ops its L n tm a) : LstR ρ' ls' ops its L n tm a :=
 ⟨h.1, fun d t h1 h2 h3 => RT.move hM (Tms.allB_ok ht h1 h2) (h.2.1 d t h1 h2 h3), fun i t d h1 h2 h3 h4 => RT.move hM (List.all_eq_true.1 hi _ (List.mem_of_getElem? h3)) (h.2.2 i t d h1 h2 h3 h4)⟩
theorem LstR_wk {ops : Array Oper} {its : List It} {L : Array Bool} {n : Nat} {k : Nat → Option Loop} (h : LstR ρ ls ops its L n tm a) : LstR (ρ.wk k) ls ops its L n tm a := by
 unfold LstR at *
 rw [RT_wk]
 exact h
theorem EntOk.move (hM : Moved p m ρ ρ' ls ls') {i : Nat} {x : HE} (hx : x.av p m = true) (hi : p i = true) (h : EntOk ρ B w ls i x) : EntOk ρ' B w ls' i x := by
 have el := hM.ls i hi
 obtain ⟨wr, ty, k⟩ := x
 cases k with
 | dead => trivial
 | cells cs =>
  obtain ⟨a, vs, h1, h2, h3⟩ := h
  exact ⟨a, vs, el.trans h1, RSs.move hM hx h2, h3⟩
 | row sh R n hi' =>
  simp only [HE.av, Bool.and_eq_true] at hx
  obtain ⟨A, c, h1, h2⟩ := h
  have eR := ev_agree hM.ag hx.1
  have en := ev_agree hM.ag hx.2
  refine ⟨A, c, el.trans ?_, ?_⟩
  ·unfold evI at h1 ⊢; rw [en]; exact h1
  ·unfold evI evR at h2 ⊢; rw [en, eR]; exact h2
 | grow sz cs =>
  obtain ⟨hw, h0, A, n, c, vs, h1, h2, h3, h4⟩ := h
  exact ⟨hw, h0, A, n, c, vs, el.trans h1, h2, RSs.move hM hx h3, h4⟩
 | mark => obtain ⟨hw, D, h1, h2⟩ := h; exact ⟨hw, D, el.trans h1, h2⟩
 | lrec st pd =>
  obtain ⟨hw, L, r, h1, h2, h3⟩ := h
  exact ⟨hw, L, r, el.trans h1, (hM.k i hi).trans h2, h3⟩
 | iter s q hi' =>
  simp only [HE.av, Bool.and_eq_true] at hx
  obtain ⟨hw, L, str, h1, h2⟩ := h
  refine ⟨hw, L, str, el.trans h1, ?_⟩
  unfold evI at h2 ⊢
  rw [ev_agree hM.ag hx.1, ev_agree hM.ag hx.2]; exact h2
 | mset R n hi' =>
  simp only [HE.av, Bool.and_eq_true] at hx
  obtain ⟨hw, L, es, clock, h1, h2⟩ := h
  refine ⟨hw, L, es, clock, el.trans h1, ?_⟩
  unfold evI evR at h2 ⊢
  rw [ev_agree hM.ag hx.1, ev_agree hM.ag hx.2]; exact h2
 | farr l o =>
  simp only [HE.av, Bool.and_eq_true] at hx
  obtain ⟨hw, L, vs, cs, h1, h0, h2, h3, h4, h5⟩ := h
  refine ⟨hw, L, vs, cs, el.trans h1, (hM.ls l hx.1).trans h0, h2, h3, h4, fun j hj => h5 j fun e he => ?_⟩
  subst he
  have := hj e rfl
  unfold evI at this ⊢
  rw [ev_agree hM.ag hx.2] at this; exact this
 | fam K Q s hi' =>
  obtain ⟨hw, vs, h1, h2, h3, h4⟩ := h
  refine ⟨hw, vs, el.trans h1, h2, fun j hj => ?_, h4⟩
  unfold evR at h3 ⊢
  rw [ev_agree hM.ag hx]; exact h3 j hj
end
def unm (n : Nat) (mv : List (Nat × Nat)) (l : Nat) : Bool := Nat.blt l n && !(mv.any fun x => Nat.beq x.1 l)
def sig : List (Nat × Nat) → Nat → Nat
 | [], l => l
 | (a, b) :: r, l => if Nat.beq a l then b else sig r l
theorem sig_unm {n : Nat} {l : Nat} : ∀ {mv : List (Nat × Nat)}, unm n mv l = true → sig mv l = l ∧ l < n
 | [], h => by simp [unm] at h; exact ⟨rfl, h⟩
 | (a, b) :: r, h => by
  simp only [unm, List.any_cons, Bool.not_or, Bool.and_eq_true] at h
  obtain ⟨h1, h2, h3⟩ := h
  have hne : Nat.beq a l = false := by simpa using h2
  obtain ⟨i1, i2⟩ := sig_unm (mv := r) (n := n) (l := l) (by simp only [unm, Bool.and_eq_true]; exact ⟨h1, h3⟩)
  exact ⟨by simp only [sig, hne]; exact i1, i2⟩
def nodupB : List Nat → Bool
 | [] => true
 | x :: r => !(r.any fun y => Nat.beq y x) && nodupB r
theorem nodupB_ok : ∀ {l : List Nat}, nodupB l = true → ∀ {i j : Nat} {x : Nat}, l[i]? = some x → l[j]? = some x → i = j
 | [], _, i, j, x, hi, _ => by simp at hi
 | y :: r, h, i, j, x, hi, hj => by
  simp only [nodupB, Bool.and_eq_true, Bool.not_eq_true'] at h
  have no : ∀ k : Nat, r[k]? ≠ some y := fun k hk => by
   have := List.any_eq_false.1 h.1 y (List.mem_of_getElem? hk)
   simp at this
  cases i with
  | zero =>
   cases j with
   | zero => rfl
   | succ j => simp at hi hj; subst hi; exact (no j hj).elim
  | succ i =>
   cases j with
   | zero => simp at hi hj; subst hj; exact (no i hi).elim
   | succ j => simp at hi hj; rw [nodupB_ok h.2 hi hj]
def lsAt (ls : Ls) (mv : List (Nat × Nat)) (n : Nat) : Ls := (List.range n).map fun l => (ls[sig mv l]?).getD undef
theorem lsAt_get {ls : Ls} {mv : List (Nat × Nat)} {n l : Nat} {v : Value} (hl : l < n) (h : ls[sig mv l]? = some v) : (lsAt ls mv n)[l]? = some v := by
 unfold lsAt
 rw [List.getElem?_map, List.getElem?_range hl]
 simp [h]
def nthT (θ : List E) (m j : Nat) : Option E := if Nat.ble m j then θ[j - m]? else none
def iStay (p : Nat → Bool) (m : Nat) (h c : SC) : Option (List E) := if h.av p m then (if sameSC h c then some [] else (match h, c with
 | .int k e lo hi, .int k' e' lo' hi' => if k = k' then some ((if eqE e e' then [] else [.eq e e']) ++ rngO e' lo hi lo' hi') else none
 | .bool e, .bool e' => some [.iff e e']
 | _, _ => none)) else none
def iSC (p : Nat → Bool) (m : Nat) (mv : List (Nat × Nat)) (θ : List E) (h c : SC) : Option (List E) :=
 match h, c with
 | .und, _ => some []
 | .int k (.var j) lo hi, .int k' e lo' hi' => (match nthT θ m j with
  | some t => if k = k' ∧ eqE t (canI e) = true then some (rngO e lo hi lo' hi') else none
  | none => iStay p m h c)
 | .bool (.var j), .bool e => (match nthT θ m j with
  | some t => if eqE t (canB e) = true then some [] else none
  | none => iStay p m h c)
 | .ow l, .ow l' => if p l then (if Nat.beq l l' then some [] else none) else (if mv.any (fun x => Nat.beq x.1 l) && Nat.beq (sig mv l) l' then some [] else none)
 | .ptr l o, .ptr l' o' => if p l then (if Nat.beq l l' && Nat.beq o o' then some [] else none) else (if mv.any (fun x => Nat.beq x.1 l) && Nat.beq (sig mv l) l' && Nat.beq o o' then some [] else none)
 | h, c => iStay p m h c
def iL (p : Nat → Bool) (m : Nat) (mv : List (Nat × Nat)) (θ : List E) : List SC → List SC → Option (List E)
 | [], [] => some []
 | h :: hs, c :: cs => (match iSC p m mv θ h c, iL p m mv θ hs cs with | some a, some b => some (a ++ b) | _, _ => none)
 | _, _ => none
def iT (p : Nat → Bool) (m : Nat) (mv : List (Nat × Nat)) (θ : List E) (h c : Tm) : Option (List E) :=
 match h.v, c.v with
 | .c s, .c s' => if isT h.g && isT c.g then iSC p m mv θ s s' else (match s with
  | .und => if isT h.g then some [] else none
  | _ => if sameT h c && h.av p m then some [] else none)
 | .agg l, .agg l' => if isT h.g && isT c.g then iL p m mv θ l l' else (if sameT h c && h.av p m then some [] else none)
 | .c .und, _ => if isT h.g then some [] else none
 | _, _ => none
def iTms (p : Nat → Bool) (m : Nat) (mv : List (Nat × Nat)) (θ : List E) (h c : Tms) : Nat → Option (List E)
 | 0 => some []
 | n + 1 => (match h.t.get n, c.t.get n with
  | some x, some y => (match iT p m mv θ x y, iTms p m mv θ h c n with | some a, some b => some (b ++ a) | _, _ => none)
  | _, _ => none)
def sameSh : List Sk → List Sk → Bool
 | [], [] => true
 | a :: r, b :: s => decide (a = b) && sameSh r s
 | _, _ => false
def sameHE (h c : HE) : Bool := (h.wr == c.wr) && Nat.beq h.ty c.ty && (match h.k, c.k with
 | .cells a, .cells b => sameL a b
 | .row sh R n hi, .row sh' R' n' hi' => sameSh sh sh' && eqE R R' && eqE n n' && decide (hi = hi')
 | .grow s a, .grow s' b => Nat.beq s s' && sameL a b
 | .mark, .mark => true
 | .lrec .ready none, .lrec .ready none => true
 | .lrec .busy none, .lrec .busy none => true
 | .dead, .dead => true
 | .iter s q hi, .iter s' q' hi' => eqE s s' && eqE q q' && decide (hi = hi')
 | .mset R n hi, .mset R' n' hi' => eqE R R' && eqE n n' && decide (hi = hi')
 | .farr l none, .farr l' none => Nat.beq l l'
 | .fam K Q s hi, .fam K' Q' s' hi' => Nat.beq K K' && eqE Q Q' && decide (s = s') && decide (hi = hi')
 | _, _ => false)
def iHE (p : Nat → Bool) (m : Nat) (mv : List (Nat × Nat)) (θ : List E) (l : Nat) (h c : HE) : Option (List E) :=
 match h.k, c.k with
 | .dead, _ => some []
 | .cells a, .cells b => if (h.wr == c.wr) && Nat.beq h.ty c.ty then iL p m mv θ a b else none
 | .row sh (.var j) (.var j') hi, .row sh' R n hi' => (match nthT θ m j with
  | some t => if (!h.wr || c.wr) && Nat.beq h.ty c.ty && Nat.beq j j' && eqE t (mkR R n) && shLe sh' sh then some (rngO n 0 hi 0 hi') else none
  | none => if sameHE h c && h.av p m && p l then some [] else none)
 | .iter s (.var j) hi, .iter s' q hi' => (match nthT θ m j with
  | some t => if (h.wr == c.wr) && eqE t (canI q) && eqE s s' && s.blw m && decide (hi = hi') then some [] else none
  | none => if sameHE h c && h.av p m && p l then some [] else none)
 | .mset (.var j) (.var j') hi, .mset R n hi' => (match nthT θ m j with
  | some t => if (h.wr == c.wr) && Nat.beq j j' && eqE t (mkR R n) then some (rngO n 0 hi 0 hi') else none
  | none => if sameHE h c && h.av p m && p l then some [] else none)
 | .farr l1 none, .farr l2 none => if (h.wr == c.wr) && Nat.beq h.ty c.ty && (p l1 || mv.any (fun x => Nat.beq x.1 l1)) && Nat.beq (sig mv l1) l2 then some [] else none
 | .fam K (.var j) s hi, .fam K' Q s' hi' => (match nthT θ m j with
  | some t => if (h.wr == c.wr) && Nat.beq h.ty c.ty && Nat.beq K K' && eqE t Q && skLe s' s && decide (hi' ≤ hi) then some [] else none
  | none => if sameHE h c && h.av p m && p l then some [] else none)
 | _, _ => if sameHE h c && h.av p m && p l then some [] else none
def iHp (p : Nat → Bool) (m : Nat) (mv : List (Nat × Nat)) (θ : List E) (cur : SH) : SH → Nat → Option (List E)
 | [], _ => some []
 | h :: r, l => (match cur[sig mv l]? with
  | some c => (match iHE p m mv θ l h c, iHp p m mv θ cur r (l + 1) with | some a, some b => some (a ++ b) | _, _ => none)
  | none => none)
def inst (m : Nat) (mv : List (Nat × Nat)) (θ : List E) (h c : St) : Option (List E) :=
 if Nat.beq h.tm.n c.tm.n && nodupB ((List.range h.hp.length).map (sig mv)) then
  (match iTms (unm h.hp.length mv) m mv θ h.tm c.tm h.tm.n, iHp (unm h.hp.length mv) m mv θ c.hp h.hp 0 with
    | some a, some b => some (a ++ b)
    | _, _ => none) else none
section
variable {P : Program} {m B n : Nat} {ρ : Env} {w0 w : World} {ls : Ls} {hp : SH} {tm : Tms} {a : Act} {mv : List (Nat × Nat)} {θ : List E}
def envT (ρ : Env) (m : Nat) (θ : List E) : Env := ρ.setxs m (θ.map fun e => (ev ρ e).x)
theorem envT_var {j : Nat} {t : E} (h : nthT θ m j = some t) : (envT ρ m θ).x j = (ev ρ t).x := by
 unfold nthT at h
 split at h
 ·rename_i hle
  have hle := Nat.le_of_ble_eq_true hle
  have := setxs_at ρ m (θ.map fun e => (ev ρ e).x) (j - m) (ev ρ t).x (by rw [List.getElem?_map, h]; rfl)
  rwa [show m + (j - m) = j by omega] at this
 ·cases h
theorem moved_at (hlen : ∀ l, l < n → sig mv l < ls.length) : Moved (unm n mv) m ρ (envT ρ m θ) ls (lsAt ls mv n) :=
 ⟨Agree.setxs ρ m _, fun l hl => by
   obtain ⟨h1, h2⟩ := sig_unm hl
   have h3 := hlen l h2
   rw [h1] at h3
   have : ls[sig mv l]? = some ls[l] := by rw [h1]; exact List.getElem?_eq_getElem h3
   rw [lsAt_get h2 this, List.getElem?_eq_getElem h3], fun l hl => rfl⟩
theorem canI_ev {e : E} : evI ρ (canI e) = evI ρ e := by
 unfold canI
 split <;> simp [evI, ev, dI, xI]
theorem canB_ev {e : E} : evB ρ (canB e) = evB ρ e := by
 unfold canB
 split <;> simp [evB, ev, dB, xB]
theorem iStay_ok (hM : Moved (unm n mv) m ρ (envT ρ m θ) ls (lsAt ls mv n)) {h c : SC} {obs : List E} (hi : iStay (unm n mv) m h c = some obs) (ho : ∀ e ∈ obs, evB ρ e = true) {v : Value} (hr : RS ρ ls c v) : RS (envT ρ m θ) (lsAt ls mv n) h v := by
 unfold iStay at hi
 split at hi
 ·rename_i hav
  split at hi
  ·rename_i hs
   have e0 := sameSC_ok hs
   subst e0
   exact RS.move hM hav hr
  ·split at hi
   ·rename_i k e lo hi' k' e' lo' hi'' hns
    split at hi
    ·rename_i hk
     subst hk
     cases hi
     have he : evI ρ e = evI ρ e' := by
      by_cases hq : eqE e e' = true
      ·rw [eqE_eq hq]
      ·exact of_decide_eq_true (ho (.eq e e') (by simp [hq]))
     refine RS.move hM hav ?_
     obtain ⟨r1, r2, r3⟩ := hr
     have := rngO_ok (fun x hx => ho x (List.mem_append_right _ hx)) r2 r3
     exact ⟨by rw [he]; exact r1, by rw [he]; exact this.1, by rw [he]; exact this.2⟩
    ·cases hi
   ·rename_i e e' hns
    cases hi
    refine RS.move hM hav ?_
    have hb : (evB ρ e == evB ρ e') = true := ho (.iff e e') (by simp)
    have hr : v = .bool (evB ρ e') := hr
    show v = .bool (evB ρ e)
    rw [beq_iff_eq.1 hb]; exact hr
   ·cases hi
 ·cases hi
theorem iSC_ok (hM : Moved (unm n mv) m ρ (envT ρ m θ) ls (lsAt ls mv n)) (hn : ∀ l, mv.any (fun x => Nat.beq x.1 l) = true → l < n) {h c : SC} {obs : List E} (hi : iSC (unm n mv) m mv θ h c = some obs) (ho : ∀ e ∈ obs, evB ρ e = true) {v : Value} (hr : RS ρ ls c v) :
 RS (envT ρ m θ) (lsAt ls mv n) h v := by
 unfold iSC at hi
 split at hi
 ·trivial
 ·split at hi
  ·rename_i t ht
   split at hi
   ·rename_i hc
    obtain ⟨rfl, h2⟩ := hc
    cases hi
    have e1 := envT_var (ρ := ρ) ht
    rw [eqE_eq h2] at e1
    have e2 : evI (envT ρ m θ) (.var _) = _ := congrArg X.i e1
    have e2 := e2.trans canI_ev
    obtain ⟨r1, r2, r3⟩ := hr
    have := rngO_ok ho r2 r3
    exact ⟨by rw [e2]; exact r1, by rw [e2]; exact this.1, by rw [e2]; exact this.2⟩
   ·cases hi
  ·exact iStay_ok hM hi ho hr
 ·split at hi
  ·rename_i t ht
   split at hi
   ·rename_i h2
    have e1 := envT_var (ρ := ρ) ht
    rw [eqE_eq h2] at e1
    have e2 : evB (envT ρ m θ) (.var _) = _ := congrArg X.b e1
    have e2 := e2.trans canB_ev
    have hr : v = _ := hr
    show v = _
    rw [e2]; exact hr
   ·cases hi
  ·exact iStay_ok hM hi ho hr
 ·split at hi
  ·rename_i hp
   split at hi
   ·rename_i he
    have he := Nat.eq_of_beq_eq_true he
    subst he
    exact RS.move hM (s := .ow _) hp hr
   ·cases hi
  ·split at hi
   ·rename_i hc
    simp only [Bool.and_eq_true] at hc
    have he := Nat.eq_of_beq_eq_true hc.2
    exact ⟨lsAt_get (hn _ hc.1) (by rw [he]; exact hr.1), hr.2⟩
   ·cases hi
 ·split at hi
  ·rename_i hp
   split at hi
   ·rename_i he
    simp only [Bool.and_eq_true] at he
    have h1 := Nat.eq_of_beq_eq_true he.1
    have h2 := Nat.eq_of_beq_eq_true he.2
    subst h1 h2
    exact RS.move hM (s := .ptr _ _) hp hr
   ·cases hi
  ·split at hi
   ·rename_i hc
    simp only [Bool.and_eq_true] at hc
    have he := Nat.eq_of_beq_eq_true hc.1.2
    have h2 := Nat.eq_of_beq_eq_true hc.2
    subst h2
    obtain ⟨a, g1, g2⟩ := hr
    exact ⟨a, lsAt_get (hn _ hc.1.1) (by rw [he]; exact g1), g2⟩
   ·cases hi
 ·exact iStay_ok hM hi ho hr
theorem iL_ok (hM : Moved (unm n mv) m ρ (envT ρ m θ) ls (lsAt ls mv n)) (hn : ∀ l, mv.any (fun x => Nat.beq x.1 l) = true → l < n) : ∀ {h c : List SC} {obs : List E} {vs : List Value}, iL (unm n mv) m mv θ h c = some obs → (∀ e ∈ obs, evB ρ e = true) → All2 (RS ρ ls) c vs →
 All2 (RS (envT ρ m θ) (lsAt ls mv n)) h vs
 | [], [], _, [], _, _, _ => trivial
 | h :: hs, c :: cs, obs, v :: vs, hi, ho, hr => by
  simp only [iL] at hi
  split at hi
  ·rename_i x y hx hy
   cases hi
   exact ⟨iSC_ok hM hn hx (fun e he => ho e (by simp [he])) hr.1, iL_ok hM hn hy (fun e he => ho e (by simp [he])) hr.2⟩
  ·cases hi
 | [], [], _, _ :: _, _, _, hr => hr.elim
 | [], _ :: _, _, _, hi, _, _ => by cases hi
 | _ :: _, [], _, _, hi, _, _ => by cases hi
 | _ :: _, _ :: _, _, [], _, _, hr => hr.elim
theorem iT_ok (hM : Moved (unm n mv) m ρ (envT ρ m θ) ls (lsAt ls mv n)) (hn : ∀ l, mv.any (fun x => Nat.beq x.1 l) = true → l < n) {h c : Tm} {obs : List E} (hi : iT (unm n mv) m mv θ h c = some obs) (ho : ∀ e ∈ obs, evB ρ e = true) {v : Value} (hr : RT ρ ls c v) :
 RT (envT ρ m θ) (lsAt ls mv n) h v := by
 have same : ∀ {h c : Tm}, (sameT h c && h.av (unm n mv) m) = true → RT ρ ls c v → RT (envT ρ m θ) (lsAt ls mv n) h v := fun e hr => by
  simp only [Bool.and_eq_true] at e
  have e0 := sameT_ok e.1
  subst e0
  exact RT.move hM e.2 hr
 obtain ⟨hg, hv⟩ := h
 obtain ⟨cg, cv⟩ := c
 unfold iT at hi
 simp only at hi
 split at hi
 ·split at hi
  ·rename_i hc
   simp only [Bool.and_eq_true] at hc
   have h1 := iSC_ok hM hn hi ho (hr.1 (isT_ok hc.2))
   exact ⟨fun _ => h1, fun e => by rw [isT_ok hc.1] at e; cases e⟩
  ·split at hi
   ·split at hi
    ·rename_i hg'
     exact ⟨fun _ => trivial, fun e => by rw [isT_ok hg'] at e; cases e⟩
    ·cases hi
   ·split at hi
    ·rename_i hc; exact same hc hr
    ·cases hi
 ·split at hi
  ·rename_i hc
   simp only [Bool.and_eq_true] at hc
   obtain ⟨vs, h1, h2⟩ := hr.1 (isT_ok hc.2)
   exact ⟨fun _ => ⟨vs, h1, iL_ok hM hn hi ho h2⟩, fun e => by rw [isT_ok hc.1] at e; cases e⟩
  ·split at hi
   ·rename_i hc; exact same hc hr
   ·cases hi
 ·split at hi
  ·rename_i hg'
   exact ⟨fun _ => trivial, fun e => by rw [isT_ok hg'] at e; cases e⟩
  ·cases hi
 ·cases hi
theorem iTms_ok (hM : Moved (unm n mv) m ρ (envT ρ m θ) ls (lsAt ls mv n)) (hn : ∀ l, mv.any (fun x => Nat.beq x.1 l) = true → l < n) {h c : Tms} (hr : RTm ρ ls c a) : ∀ {N : Nat} {obs : List E}, iTms (unm n mv) m mv θ h c N = some obs → N ≤ c.n → (∀ e ∈ obs, evB ρ e = true) →
 ∀ d t, d < N → h.t.get d = some t → RT (envT ρ m θ) (lsAt ls mv n) t (a.tmps.getD d undef)
 | 0, _, _, _, _, d, _, hd, _ => by omega
 | N + 1, obs, hi, hN, ho, d, t, hd, ht => by
  simp only [iTms] at hi
  split at hi
  ·rename_i x y hx hy
   split at hi
   ·rename_i p q hp hq
    cases hi
    by_cases hdN : d = N
    ·subst hdN
     rw [hx] at ht
     cases ht
     exact iT_ok hM hn hp (fun e he => ho e (by simp [he])) (hr.2 d y (by omega) hy)
    ·exact iTms_ok hM hn hr hq (by omega) (fun e he => ho e (by simp [he])) d t (by omega) ht
   ·cases hi
  ·cases hi
theorem sameSh_ok : ∀ {a b : List Sk}, sameSh a b = true → a = b
 | [], [], _ => rfl
 | _ :: _, _ :: _, h => by
  simp only [sameSh, Bool.and_eq_true, decide_eq_true_eq] at h
  rw [h.1, sameSh_ok h.2]
 | [], _ :: _, h => by cases h
 | _ :: _, [], h => by cases h
theorem sameHE_ok {h c : HE} (e : sameHE h c = true) : h = c := by
 obtain ⟨hw, ht, hk⟩ := h
 obtain ⟨cw, ct, ck⟩ := c
 simp only [sameHE, Bool.and_eq_true, beq_iff_eq] at e
 obtain ⟨⟨rfl, e2⟩, e3⟩ := e
 have e2 := Nat.eq_of_beq_eq_true e2
 subst e2
 split at e3
 ·rw [sameL_ok e3]
 ·simp only [Bool.and_eq_true, decide_eq_true_eq] at e3
  obtain ⟨⟨⟨e4, e5⟩, e6⟩, rfl⟩ := e3
  rw [sameSh_ok e4, eqE_eq e5, eqE_eq e6]
 ·simp only [Bool.and_eq_true] at e3
  rw [Nat.eq_of_beq_eq_true e3.1, sameL_ok e3.2]
 ·rfl
 ·rfl
 ·rfl
 ·rfl
 ·simp only [Bool.and_eq_true, decide_eq_true_eq] at e3
  rw [eqE_eq e3.1.1, eqE_eq e3.1.2, e3.2]
 ·simp only [Bool.and_eq_true, decide_eq_true_eq] at e3
  rw [eqE_eq e3.1.1, eqE_eq e3.1.2, e3.2]
 ·rw [Nat.eq_of_beq_eq_true e3]
 ·simp only [Bool.and_eq_true, decide_eq_true_eq] at e3
  rw [Nat.eq_of_beq_eq_true e3.1.1.1, eqE_eq e3.1.1.2, e3.1.2, e3.2]
 ·cases e3
theorem iHE_ok (hM : Moved (unm n mv) m ρ (envT ρ m θ) ls (lsAt ls mv n)) (hn : ∀ l, mv.any (fun x => Nat.beq x.1 l) = true → l < n) {l : Nat} (hl : l < n) {h c : HE} {obs : List E} (hi : iHE (unm n mv) m mv θ l h c = some obs) (ho : ∀ e ∈ obs, evB ρ e = true) (hc : EntOk ρ B w ls (sig mv l) c) :
 EntOk (envT ρ m θ) B w (lsAt ls mv n) l h ∧ (h.live = true → c.live = true) ∧ ∀ b, RdBlk (envT ρ m θ) (lsAt ls mv n) l h b → Blk ls[sig mv l]? b → RdBlk ρ ls (sig mv l) c b := by
 have same : (sameHE h c && h.av (unm n mv) m && unm n mv l) = true → EntOk (envT ρ m θ) B w (lsAt ls mv n) l h ∧ (h.live = true → c.live = true) ∧ ∀ b, RdBlk (envT ρ m θ) (lsAt ls mv n) l h b → Blk ls[sig mv l]? b → RdBlk ρ ls (sig mv l) c b := fun e => by
  simp only [Bool.and_eq_true] at e
  obtain ⟨⟨e1, e2⟩, e3⟩ := e
  have := sameHE_ok e1
  subst this
  obtain ⟨e4, _⟩ := sig_unm e3
  rw [e4] at hc ⊢
  refine ⟨EntOk.move hM e2 e3 hc, fun h => h, fun b hb hbl => ⟨hbl, hb.2.1, fun hw => ?_⟩⟩
  have h3 := hb.2.2 hw
  obtain ⟨wr, ty, k⟩ := h
  cases k <;> try trivial
  rename_i sh R n' hi'
  simp only [HE.av, Bool.and_eq_true] at e2
  have en := ev_agree hM.ag e2.2
  unfold evI at h3 ⊢
  simp only at h3 ⊢
  rw [en] at h3; exact h3
 have rdk : ∀ {x : HE}, x.rd = true → ∀ {k}, x.k = k → k ≠ .dead := fun hx k hk e => by subst hk; rw [HE.rd, e] at hx; cases hx
 obtain ⟨hw, ht, hk⟩ := h
 obtain ⟨cw, ct, ck⟩ := c
 unfold iHE at hi
 simp only at hi
 split at hi
 ·exact ⟨trivial, fun e => by simp [HE.live, HE.rd] at e, fun b hb => by have := hb.2.1; simp [HE.rd] at this⟩
 ·split at hi
  ·rename_i hc'
   simp only [Bool.and_eq_true, beq_iff_eq] at hc'
   obtain ⟨rfl, e2⟩ := hc'
   have e2 := Nat.eq_of_beq_eq_true e2
   subst e2
   obtain ⟨x, vs, h1, h2, h3⟩ := hc
   exact ⟨⟨x, vs, lsAt_get hl h1, iL_ok hM hn hi ho h2, h3⟩, fun e => e, fun b hb hbl => ⟨hbl, rfl, fun _ => trivial⟩⟩
  ·cases hi
 ·rename_i sh j j' hi0 sh' R n0 hi0'
  split at hi
  ·rename_i t ht'
   split at hi
   ·rename_i hc'
    simp only [Bool.and_eq_true] at hc'
    obtain ⟨⟨⟨⟨e1, e2⟩, e3⟩, e4⟩, e5⟩ := hc'
    have e2 := Nat.eq_of_beq_eq_true e2
    have e3 := Nat.eq_of_beq_eq_true e3
    subst e2 e3
    cases hi
    have q1 := envT_var (ρ := ρ) ht'
    rw [eqE_eq e4] at q1
    have qI : evI (envT ρ m θ) (.var j) = evI ρ n0 := (congrArg X.i q1).trans mkR_ev.1
    have qR : evR (envT ρ m θ) (.var j) = evR ρ R := (congrArg X.r q1).trans mkR_ev.2
    obtain ⟨A, c', h1, h2, h3, h4, h5, h6, h7, h8⟩ := hc
    have hl' := shLe_len e5
    have hrow := fun k => shLe_row e5 (evR ρ R) k
    have hwr : hw = true → cw = true := fun e => by subst e; simpa using e1
    refine ⟨⟨A, c', by rw [qI]; exact lsAt_get hl h1, by rw [qI]; exact h2, by rw [qI]; exact (rngO_ok ho h2 h3).2, by rw [qI]; exact h4, by rw [← hl']; exact h5, by rw [qI, qR]; exact (hrow _).1 h6, fun e => ?_, fun e h0 => ?_⟩, fun e => ?_, fun b hb hbl => ⟨hbl, rfl, fun hcw => ?_⟩⟩
    ·rw [qI, qR, ← (hrow _).2, ← hl']; exact h7 (hwr e)
    ·rw [qI] at h0
     rw [qI, qR, ← (hrow _).2]
     cases hcw : cw
     ·exact h8 hcw h0
     ·have hown := h7 hcw
      rcases hown.2 with ⟨e', _⟩ | ⟨g, cap, cur, e', _⟩
      ·injection e' with _ e'; omega
      ·injection e' with e'
       exact ⟨⟨g, 0, none⟩, e', fun j v hv => by
        subst e'
        exact hown.cells (g := g) rfl _ _ hv⟩
    ·simp only [HE.live, Bool.and_eq_true] at e ⊢
     exact ⟨hwr e.1, rfl⟩
    ·have hne : hw = false := by
      cases hq : hw
      ·rfl
      ·rw [hwr hq] at hcw; cases hcw
     have := hb.2.2 hne
     simp only at this
     rw [qI] at this; exact this
   ·cases hi
  ·split at hi
   ·rename_i hc'; exact same hc'
   ·cases hi
 ·rename_i s j hi0 s' q hi1
  split at hi
  ·rename_i t ht'
   split at hi
   ·rename_i hc'
    simp only [Bool.and_eq_true, beq_iff_eq, decide_eq_true_eq] at hc'
    obtain ⟨⟨⟨⟨rfl, e4⟩, e5⟩, e6⟩, rfl⟩ := hc'
    have e5 := eqE_eq e5
    subst e5
    have q1 := envT_var (ρ := ρ) ht'
    rw [eqE_eq e4] at q1
    have qI : evI (envT ρ m θ) (.var j) = evI ρ q := (congrArg X.i q1).trans canI_ev
    have qs : ev (envT ρ m θ) s = ev ρ s := ev_agree hM.ag e6
    obtain ⟨h0, L, str, h1, h2⟩ := hc
    refine ⟨⟨h0, L, str, lsAt_get hl h1, ?_⟩, fun e => e, fun b hb hbl => ⟨hbl, rfl, fun _ => trivial⟩⟩
    rw [qI]
    unfold evI at h2 ⊢
    rw [qs]; exact h2
   ·cases hi
  ·split at hi
   ·rename_i hc'; exact same hc'
   ·cases hi
 ·rename_i j j' hi0 R n0 hi1
  split at hi
  ·rename_i t ht'
   split at hi
   ·rename_i hc'
    simp only [Bool.and_eq_true, beq_iff_eq] at hc'
    obtain ⟨⟨rfl, e3⟩, e4⟩ := hc'
    have e3 := Nat.eq_of_beq_eq_true e3
    subst e3
    cases hi
    have q1 := envT_var (ρ := ρ) ht'
    rw [eqE_eq e4] at q1
    have qI : evI (envT ρ m θ) (.var j) = evI ρ n0 := (congrArg X.i q1).trans mkR_ev.1
    have qR : evR (envT ρ m θ) (.var j) = evR ρ R := (congrArg X.r q1).trans mkR_ev.2
    obtain ⟨h0, L, es, clock, h1, h2, h3, h4, h5, h6, h7⟩ := hc
    refine ⟨⟨h0, L, es, clock, lsAt_get hl h1, h2, h3, ?_⟩, fun e => e, fun b hb hbl => ⟨hbl, rfl, fun _ => trivial⟩⟩
    rw [qI, qR]
    exact ⟨h4, (rngO_ok ho h4 h5).2, h6, h7⟩
   ·cases hi
  ·split at hi
   ·rename_i hc'; exact same hc'
   ·cases hi
 ·rename_i l1 l2
  split at hi
  ·rename_i hc'
   simp only [Bool.and_eq_true, beq_iff_eq, Bool.or_eq_true] at hc'
   obtain ⟨⟨⟨rfl, e2⟩, e3⟩, e4⟩ := hc'
   have e2 := Nat.eq_of_beq_eq_true e2
   have e4 := Nat.eq_of_beq_eq_true e4
   subst e2 e4
   obtain ⟨h0, L, vs, cs, h1, hx, h2⟩ := hc
   have hl1 : l1 < n := by
    rcases e3 with e3 | e3
    ·exact (sig_unm e3).2
    ·exact hn _ e3
   exact ⟨⟨h0, L, vs, cs, lsAt_get hl h1, lsAt_get hl1 hx, h2.1, h2.2.1, h2.2.2.1, fun j _ => h2.2.2.2 j fun e he => by cases he⟩, fun e => e, fun b hb hbl => ⟨hbl, rfl, fun _ => trivial⟩⟩
  ·cases hi
 ·rename_i K j s hi0 K' Q s' hi1
  split at hi
  ·rename_i t ht'
   split at hi
   ·rename_i hc'
    simp only [Bool.and_eq_true, beq_iff_eq, decide_eq_true_eq] at hc'
    obtain ⟨⟨⟨⟨⟨rfl, e2⟩, e3⟩, e4⟩, e5⟩, e6⟩ := hc'
    have e2 := Nat.eq_of_beq_eq_true e2
    have e3 := Nat.eq_of_beq_eq_true e3
    subst e2 e3
    have q1 := envT_var (ρ := ρ) ht'
    rw [eqE_eq e4] at q1
    have qR : evR (envT ρ m θ) (.var j) = evR ρ Q := congrArg X.r q1
    obtain ⟨k1, k2⟩ := skLe_ok e5
    obtain ⟨h0, vs, h1, h2, h3, h4⟩ := hc
    refine ⟨⟨h0, vs, lsAt_get hl h1, h2, fun i hi' => ?_, h4⟩, fun e => e, fun b hb hbl => ⟨hbl, rfl, fun _ => trivial⟩⟩
    obtain ⟨A, n', c', g1, g2, g3, g4, g5⟩ := h3 i hi'
    rw [qR]
    refine ⟨A, n', c', g1, g2, by omega, fun k hk => k1 _ (g4 k hk), ?_⟩
    have : famV s (evR ρ Q) i n' = famV s' (evR ρ Q) i n' := by
     unfold famV
     exact List.map_congr_left fun k _ => (k2 _).symm
    rw [this]; exact g5
   ·cases hi
  ·split at hi
   ·rename_i hc'; exact same hc'
   ·cases hi
 ·split at hi
  ·rename_i hc'; exact same hc'
  ·cases hi
theorem iHp_ok : ∀ {h : SH} {l : Nat} {obs : List E}, iHp (unm n mv) m mv θ hp h l = some obs → ∀ (i : Nat) (x : HE), h[i]? = some x → ∃ c o, hp[sig mv (l + i)]? = some c ∧ iHE (unm n mv) m mv θ (l + i) x c = some o ∧ ∀ e ∈ o, e ∈ obs
 | [], _, _, _, i, x, hx => by simp at hx
 | y :: r, l, obs, hi, i, x, hx => by
  simp only [iHp] at hi
  split at hi
  ·rename_i c hc
   split at hi
   ·rename_i p q hp' hq
    cases hi
    cases i with
    | zero => simp at hx; subst hx; exact ⟨c, p, hc, hp', fun e he => by simp [he]⟩
    | succ i =>
     simp at hx
     obtain ⟨c', o, h1, h2, h3⟩ := iHp_ok hq i x hx
     rw [show l + 1 + i = l + (i + 1) by omega] at h1 h2
     exact ⟨c', o, h1, h2, fun e he => by simp [h3 e he]⟩
   ·cases hi
  ·cases hi
theorem inst_ok {h c : St} {obs : List E} (hi : inst m mv θ h c = some obs) (ho : ∀ e ∈ obs, evB ρ e = true) (hmv : ∀ x ∈ mv, x.1 < h.hp.length) (hr : RTm ρ ls c.tm a) (hh : HOk ρ B w0 ls c.hp w) :
 Moved (unm h.hp.length mv) m ρ (envT ρ m θ) ls (lsAt ls mv h.hp.length) ∧ RTm (envT ρ m θ) (lsAt ls mv h.hp.length) h.tm a ∧ HOk (envT ρ m θ) B w0 (lsAt ls mv h.hp.length) h.hp w := by
 unfold inst at hi
 split at hi
 ·rename_i hc
  simp only [Bool.and_eq_true] at hc
  obtain ⟨hn, hnd⟩ := hc
  have hn := Nat.eq_of_beq_eq_true hn
  split at hi
  ·rename_i p q hp hq
   cases hi
   have ent := fun i x hx => iHp_ok hq i x hx
   simp only [Nat.zero_add] at ent
   have hlen : ∀ l, l < h.hp.length → sig mv l < ls.length := fun l hl => by
    obtain ⟨c', _, h1, _⟩ := ent l _ (List.getElem?_eq_getElem hl)
    rw [hh.len]; exact (List.getElem?_eq_some_iff.1 h1).1
   have hM := moved_at (m := m) (ρ := ρ) (θ := θ) hlen
   have hnm : ∀ l, mv.any (fun x => Nat.beq x.1 l) = true → l < h.hp.length := fun l hl => by
    obtain ⟨x, hx, he⟩ := List.any_eq_true.1 hl
    rw [← Nat.eq_of_beq_eq_true he]; exact hmv x hx
   refine ⟨hM, ⟨hn.trans hr.1, fun d t hd ht => iTms_ok hM hnm hr hp (by omega) (fun e he => ho e (by simp [he])) d t hd ht⟩, ?_⟩
   have one : ∀ (i : Nat) (x : HE), h.hp[i]? = some x → ∃ c', c.hp[sig mv i]? = some c' ∧ EntOk (envT ρ m θ) B w (lsAt ls mv h.hp.length) i x ∧ (x.live = true → c'.live = true) ∧ ∀ b, RdBlk (envT ρ m θ) (lsAt ls mv h.hp.length) i x b → Blk ls[sig mv i]? b → RdBlk ρ ls (sig mv i) c' b := fun i x hx => by
    obtain ⟨c', o, h1, h2, h3⟩ := ent i x hx
    have hil : i < h.hp.length := (List.getElem?_eq_some_iff.1 hx).1
    exact ⟨c', h1, iHE_ok hM hnm hil h2 (fun e he => ho e (by simp [h3 e he])) (hh.ent _ _ h1)⟩
   have blk : ∀ {i : Nat}, i < h.hp.length → (lsAt ls mv h.hp.length)[i]? = ls[sig mv i]? := fun {i} hi => by
    have h3 := hlen i hi
    rw [lsAt_get hi (List.getElem?_eq_getElem h3), List.getElem?_eq_getElem h3]
   exact {
    below := hh.below
    base := hh.base
    len := by simp [lsAt]
    glob := hh.glob
    ent := fun i x hx => by obtain ⟨_, _, h2, _⟩ := one i x hx; exact h2
    inj := fun i j x y b hx hy lx bi bj => by
     obtain ⟨x', hx', _, lx', _⟩ := one i x hx
     obtain ⟨y', hy', _, _, by'⟩ := one j y hy
     have hil : i < h.hp.length := (List.getElem?_eq_some_iff.1 hx).1
     have hjl : j < h.hp.length := (List.getElem?_eq_some_iff.1 hy).1
     have e := hh.inj (sig mv i) (sig mv j) x' y' b hx' hy' (lx' lx) (by rw [← blk hil]; exact bi) (by' b bj (by rw [← blk hjl]; exact bj.1))
     exact nodupB_ok hnd (i := i) (j := j) (x := sig mv i) (by rw [List.getElem?_map, List.getElem?_range hil]; rfl) (by rw [List.getElem?_map, List.getElem?_range hjl, e]; rfl) }
  ·cases hi
 ·cases hi
end
def Pth.get (tm : Tms) (hp : SH) : Pth → Option SC
 | .tmp d => (match tm.get d with | some ⟨g, .c s⟩ => if isT g then some s else none | _ => none)
 | .part d j => (match tm.get d with | some ⟨g, .agg l⟩ => if isT g then l[j]? else none | _ => none)
 | .cell l j => (match hp[l]? with | some ⟨_, _, .cells cs⟩ => cs[j]? | some ⟨_, _, .iter _ q hi⟩ => some (.int .i64 q 0 hi) | _ => none)
 | .ex _ => none
 | .own l => (match hp[l]? with | some ⟨_, _, .row ..⟩ => some (.ow l) | some ⟨_, _, .mset ..⟩ => some (.mp l) | _ => none)
 | .ind d j => (match tm.get d with | some ⟨g, .c (.ptr l o)⟩ => if isT g then (match hp[l]? with | some ⟨_, _, .cells cs⟩ => cs[o + j]? | _ => none) else none | _ => none)
 | .fam _ => none
 | .mvp _ => none
 | .fgt _ => none
def Pth.put (s : SC) : Pth → Tms × SH → Option (Tms × SH)
 | .tmp d, (tm, hp) => some (putT tm (some d) ⟨.bc true, .c s⟩, hp)
 | .part d j, (tm, hp) => (match tm.get d with | some ⟨g, .agg l⟩ => some (putT tm (some d) ⟨g, .agg (l.set j s)⟩, hp) | _ => none)
 | .cell l j, (tm, hp) => (match hp[l]? with | some ⟨b, ty, .cells cs⟩ => some (tm, hp.set l ⟨b, ty, .cells (cs.set j s)⟩) | _ => none)
 | .ex _, _ => none
 | .own l, (tm, hp) => (match s with | .ow l' => if Nat.beq l l' then some (tm, hp) else none | _ => none)
 | _, _ => none
def Pth.putH (s : SC) (x : Pth) (t : Tms × SH) : Option (Tms × SH) := match x, t with
 | .ind d j, (tm, hp) => (match tm.get d with | some ⟨_, .c (.ptr l o)⟩ => (match hp[l]? with | some ⟨b, ty, .cells cs⟩ => some (tm, hp.set l ⟨b, ty, .cells (cs.set (o + j) s)⟩) | _ => none) | _ => none)
 | .cell l j, (tm, hp) => (match hp[l]?, s with
  | some ⟨b, ty, .iter a _ hi⟩, .int _ q _ _ => some (tm, hp.set l ⟨b, ty, .iter a q hi⟩)
  | _, _ => Pth.put s (.cell l j) (tm, hp))
 | x, t => Pth.put s x t
def Pth.isOwn : Pth → Bool
 | .own _ => true
 | _ => false
def promote (x : Pth × TypeId × List Sk × Int) (s : Tms × SH) : Option (Tms × SH) :=
 match x.1.get s.1 s.2 with
 | some (.ow l) => if x.1.isOwn then some s else (match s.2[l]? with
  | some ⟨false, _, .row sh R n hi⟩ => x.1.put (.ow s.2.length) (s.1, s.2 ++ [⟨false, x.2.1, .row sh R n hi⟩])
  | _ => some s)
 | some (.cst (.slice none 0 0)) => if decide (0 < x.2.2.1.length) && decide (0 ≤ x.2.2.2) then x.1.put (.ow s.2.length) (s.1, s.2 ++ [⟨true, x.2.1, .row x.2.2.1 (.rtab 1 .nil) (.ic 0) x.2.2.2⟩]) else none
 | _ => none
def isNilS : SC → Bool
 | .cst (.slice none 0 0) => true
 | _ => false
def promF (x : Pth × TypeId × List Sk × Int) (s : Tms × SH) : Option (Tms × SH) :=
 match x with
 | (.fam l, ty, [sk], hi) => (match s.2[l]? with
  | some ⟨true, ty', .cells cs⟩ => if cs.all isNilS && decide (0 ≤ hi) then some (s.1, s.2.set l ⟨true, ty', .farr s.2.length none⟩ ++ [⟨true, ty, .fam cs.length (.rrep .nil) sk hi⟩]) else none
  | some ⟨_, _, .farr _ none⟩ => some s
  | _ => none)
 | (.own l, _, _, _) => (match s.2[l]? with | some ⟨_, _, .mset ..⟩ => some s | _ => promote x s)
 | _ => promote x s
def promotes : List (Pth × TypeId × List Sk × Int) → Tms × SH → Option (Tms × SH)
 | [], s => some s
 | x :: r, s => (match promF x s with | some s' => promotes r s' | none => none)
def maskL : List Oper → Tms → Tms
 | [], tm => tm
 | o :: r, tm => maskL r (putT tm o.dst unkT)
def maskC : Code → Tms → Tms
 | .seq a b, tm => maskC b (maskC a tm)
 | .cond _ a b, tm => maskC b (maskC a tm)
 | .block _ c, tm => maskC c tm
 | .loop c, tm => maskC c tm
 | .scope c, tm => maskC c tm
 | .region _ ops _, tm => maskL ops.toList tm
 | _, tm => tm
def hdVars (s1 : Tms × SH) : List (Pth × Int × Int) → Nat → Tms × SH → Option (Tms × SH)
 | [], _, s => some s
 | (x, lo, hi) :: r, j, s => (match x.get s1.1 s1.2 with
  | some (.int k _ _ _) => (match x.putH (.int k (.var j) lo hi) s with | some s' => hdVars s1 r (j + 1) s' | none => none)
  | some (.bool _) => (match x.putH (.bool (.var j)) s with | some s' => hdVars s1 r (j + 1) s' | none => none)
  | _ => none)
def hdRows (s1 : Tms × SH) : List (Pth × TypeId × List Sk × Int) → Nat → Tms × SH → Option (Tms × SH)
 | [], _, s => some s
 | (.fam l, _, _, _) :: r, j, s => (match s.2[l]? with
  | some ⟨_, _, .farr l2 _⟩ => (match s.2[l2]? with
   | some ⟨b, ty, .fam K _ sk hi⟩ => hdRows s1 r (j + 1) (s.1, s.2.set l2 ⟨b, ty, .fam K (.var j) sk hi⟩)
   | _ => none)
  | _ => none)
 | (x, _, sh, hi) :: r, j, s => (match x.get s1.1 s1.2 with
  | some (.mp l) => (match s.2[l]? with
   | some ⟨b, ty, .mset ..⟩ => hdRows s1 r (j + 1) (s.1, s.2.set l ⟨b, ty, .mset (.var j) (.var j) hi⟩)
   | _ => none)
  | some (.ow l) => (match s.2[l]? with
   | some ⟨b, ty, .row ..⟩ => (match x.put (.ow l) (s.1, s.2.set l ⟨b, ty, .row sh (.var j) (.var j) hi⟩) with | some s' => hdRows s1 r (j + 1) s' | none => none)
   | _ => none)
  | _ => none)
def thVars (s : Tms × SH) : List (Pth × Int × Int) → Option (List E)
 | [] => some []
 | (x, _, _) :: r => (match x.get s.1 s.2, thVars s r with
  | some (.int _ e _ _), some l => some (canI e :: l)
  | some (.bool e), some l => some (canB e :: l)
  | _, _ => none)
def thRows (h s : Tms × SH) : List (Pth × TypeId × List Sk × Int) → Option (List E × List (Nat × Nat))
 | [] => some ([], [])
 | (.fam l, _, _, _) :: r => (match h.2[l]?, s.2[l]?, thRows h s r with
  | some ⟨_, _, .farr l2 _⟩, some ⟨_, _, .farr l3 _⟩, some (es, mv) => (match s.2[l3]? with
   | some ⟨_, _, .fam _ Q _ _⟩ => some (Q :: es, (l2, l3) :: mv)
   | _ => none)
  | _, _, _ => none)
 | (x, _, _, _) :: r => (match x.get h.1 h.2, x.get s.1 s.2, thRows h s r with
  | some (.mp _), some (.mp l'), some (es, mv) => (match s.2[l']? with
   | some ⟨_, _, .mset R n _⟩ => some (mkR R n :: es, mv)
   | _ => none)
  | some (.ow l), some (.ow l'), some (es, mv) => (match s.2[l']? with
   | some ⟨_, _, .row _ R n _⟩ => some (mkR R n :: es, if x.isOwn then mv else (l, l') :: mv)
   | _ => none)
  | _, _, _ => none)
def argOf (s : Tms × SH) : List Pth → Option (List E)
 | [] => some []
 | .ex e :: r => (match argOf s r with | some l => some (e :: l) | none => none)
 | .mvp _ :: r => argOf s r
 | .fgt _ :: r => argOf s r
 | x :: r => (match x.get s.1 s.2, argOf s r with
  | some (.int _ e _ _), some l => some (canI e :: l)
  | some (.bool e), some l => some (canB e :: l)
  | some (.ow l'), some l => (match s.2[l']? with
   | some ⟨_, _, .row _ R n _⟩ => some (mkR R n :: l)
   | _ => none)
  | some (.mp l'), some l => (match s.2[l']? with
   | some ⟨_, _, .mset R n _⟩ => some (mkR R n :: l)
   | _ => none)
  | some (.str e _), some l => some (e :: l)
  | _, _ => none)
def thMov (h s : Tms × SH) : List Pth → Option (List (Nat × Nat))
 | [] => some []
 | .mvp d :: r => (match h.1.get d, s.1.get d, thMov h s r with
  | some ⟨_, .c (.ptr l _)⟩, some ⟨_, .c (.ptr l' _)⟩, some mv => some ((l, l') :: mv)
  | _, _, _ => none)
 | _ :: r => thMov h s r
def hdMov (s1 : Tms × SH) : List Pth → Tms × SH → Tms × SH
 | [], s => s
 | .mvp d :: r, s => (match s1.1.get d with | some t => hdMov s1 r (putT s.1 (some d) t, s.2) | none => hdMov s1 r s)
 | .fgt d :: r, s => hdMov s1 r (putT s.1 (some d) unkT, s.2)
 | _ :: r, s => hdMov s1 r s
def thAll (h s : Tms × SH) (L : LSpec) : Option (List E × List (Nat × Nat)) := match thRows h s L.rows, thMov h s L.extra with
 | some (u, mv), some mv' => some (u, mv ++ mv')
 | _, _ => none
def varL : Nat → Nat → List E
 | _, 0 => []
 | j, n + 1 => .var j :: varL (j + 1) n
def allF : Nat → Nat → Fm → Fm
 | _, 0, f => f
 | j, n + 1, f => .all j (allF (j + 1) n f)
structure Hd where
 s1 : St
 h : St
 θ : List E
 mv : List (Nat × Nat)
 A : List E
def LSpec.k (L : LSpec) : Nat := L.vars.length + L.rows.length
def isOwV : SV → Bool
 | .c (.ow _) => true
 | .c (.ptr _ _) => true
 | _ => false
def isTupV : SV → Bool
 | .tup _ => true
 | _ => false
def keepT (p : Nat → Bool) (m : Nat) (tm : Tms) : Tms := ⟨tm.n, tm.t.map fun t => if (t.av p m && !isTupV t.v) || (t.av (fun _ => true) m && isOwV t.v) then t else unkT⟩
def keepH (m : Nat) (hp : SH) : SH := hp.map fun x => if HE.av (fun _ => true) m x then x else ⟨x.wr, x.ty, .dead⟩
def keepC (m : Nat) (hp : SH) : SH := hp.map fun x => match x.k with
 | .cells cs => ⟨x.wr, x.ty, .cells (cs.map fun c => if SC.av (fun _ => true) m c then c else .und)⟩
 | .grow _ cs => if cs.all (SC.av (fun _ => true) m) then x else ⟨x.wr, x.ty, .dead⟩
 | _ => x
def headOf (L : LSpec) (c : Code) (s : St) : Option Hd :=
 match promotes L.rows (s.tm, s.hp) with
 | some s1 => (match hdVars s1 L.vars L.m (hdMov s1 L.extra (keepT (fun _ => true) L.m (maskC c s1.1), keepC L.m s1.2)) with
  | some h1 => (match hdRows s1 L.rows (L.m + L.vars.length) h1 with
   | some h => (match thVars s1 L.vars, thAll h s1 L, argOf s1 L.extra with
    | some t, some (u, mv), some A => some ⟨⟨s1.1, s1.2, s.neg⟩, ⟨keepT (unm h.2.length mv) (L.m + L.k) h.1, keepH (L.m + L.k) h.2, s.neg.filter (E.blw L.m)⟩, t ++ u, mv, A⟩
    | _, _, _ => none)
   | none => none)
  | none => none)
 | none => none
end Vc
end Go.Proofs.YtelbilnnmmbmdaaDoor
namespace Go.Proofs.YtelbilnnmmbmdaaDoor
namespace Vc
open Go Go.RowKit
set_option linter.unusedVariables false
def newEl : List Sk → List SC → Option (List Sk × List E)
 | [], [] => some ([], [])
 | s :: sh, c :: cs => (match matchSk s c, newEl sh cs with
  | some (s', e), some (sh', es) => some (s' :: sh', e :: es)
  | _, _ => none)
 | _, _ => none
theorem newEl_get : ∀ {sh : List Sk} {cs : List SC} {sh' : List Sk} {es : List E}, newEl sh cs = some (sh', es) → sh'.length = sh.length ∧ cs.length = sh.length ∧
 ∀ (k : Nat) (s' : Sk), sh'[k]? = some s' → ∃ s c e, sh[k]? = some s ∧ cs[k]? = some c ∧ es[k]? = some e ∧ matchSk s c = some (s', e)
 | [], [], _, _, h => by cases h; exact ⟨rfl, rfl, fun k s' hk => by simp at hk⟩
 | s :: sh, c :: cs, sh', es, h => by
  simp only [newEl] at h
  split at h
  ·rename_i s1 e1 sh1 es1 hm hr
   cases h
   obtain ⟨h1, h2, h3⟩ := newEl_get hr
   refine ⟨by simp [h1], by simp [h2], fun k s' hk => ?_⟩
   cases k with
   | zero => simp at hk; subst hk; exact ⟨s, c, e1, rfl, rfl, rfl, hm⟩
   | succ k => simp at hk; simpa using h3 k s' hk
  ·cases h
 | [], _ :: _, _, _, h => by cases h
 | _ :: _, [], _, _, h => by cases h
def xappend (P : Program) (hp : SH) (t : TypeId) (x y : SV) : Option SH :=
 match P.underlying t with
 | some (.slice el) => (match P.info? el with
  | some ie => (match ie.zero with
   | some z => if 0 < ie.size ∧ z.cells.size = ie.size then (match newsOf hp ie.size y with
    | some (1, _, news) => (match x with
     | .c (.ow l) => (match hp[l]? with
      | some ⟨true, ty, .row sh R n hi⟩ => if ty = el ∧ sh.length = ie.size ∧ hi + 1 ≤ 1000000000 ∧ (hi + 1) * ie.bytes ≤ 140737488355328 then (match newEl sh news with
       | some (sh', es) => some (hp.set l ⟨true, ty, .dead⟩ ++ [⟨true, el, .row sh' (.rcat R n (.rtab ie.size (argE es))) (eAdd n (.ic 1)) (hi + 1)⟩])
       | none => none) else none
      | _ => none)
     | _ => none)
    | _ => none) else none
   | none => none)
  | none => none)
 | _ => none
section
variable {P : Program} {ρ : Env} {B : Nat} {w0 w : World} {ls : Ls} {hp : SH} {tm : Tms} {a : Act} {G : E} {cf : Cfg}
theorem row_more {sh sh' : List Sk} {cs : List SC} {es : List E} {vs : List Value} {R n : E} {sz : Nat} (hm : newEl sh cs = some (sh', es)) (hr : All2 (RS ρ ls) cs vs) (hsz : sh.length = sz) (h0 : 0 ≤ evI ρ n) (hok : RowOk sh (evR ρ R) (evI ρ n).toNat) :
 RowOk sh' (evR ρ (.rcat R n (.rtab sz (argE es)))) ((evI ρ n).toNat + 1) ∧ rowV sh' (evR ρ (.rcat R n (.rtab sz (argE es)))) ((evI ρ n).toNat + 1) = rowV sh (evR ρ R) (evI ρ n).toNat ++ vs := by
 obtain ⟨l1, l2, get⟩ := newEl_get hm
 have hlv := hr.len
 have old : ∀ i : Nat, i < (evI ρ n).toNat → evR ρ (.rcat R n (.rtab sz (argE es))) i = evR ρ R i := fun i hi => by
  funext p
  exact if_pos (show (i : Int) < evI ρ n by omega)
 have new : ∀ p : Nat, p < sz → evR ρ (.rcat R n (.rtab sz (argE es))) ((evI ρ n).toNat : Nat) p = ((dsOf ρ es).getD p (xI 0)).y := fun p hp => by
  show (if (((evI ρ n).toNat : Nat) : Int) < evI ρ n then _ else ((ev ρ (argE es)).l.getD (((((evI ρ n).toNat : Nat) : Int) - evI ρ n).toNat * sz + (p : Int).toNat) (xI 0)).y) = _
  rw [if_neg (by omega), ev_argE, show ((((evI ρ n).toNat : Nat) : Int) - evI ρ n).toNat = 0 by omega, Nat.zero_mul, Nat.zero_add, Int.toNat_natCast]
 have wide : ∀ (k : Nat) (s' : Sk), sh'[k]? = some s' → ∃ s, sh[k]? = some s ∧ (∀ y, skV s' y = skV s y) ∧ ∀ y, skOk s y → skOk s' y := fun k s' hk => by
  obtain ⟨s, c, e, h1, h2, h3, h4⟩ := get k s' hk
  obtain ⟨v, hv, hrv⟩ := hr.get h2
  obtain ⟨_, _, m3, m4⟩ := skV_match h4 hrv
  exact ⟨s, h1, m3, m4⟩
 have elw : ∀ f : Int → Y, elV sh' f 0 = elV sh f 0 := fun f => by
  apply List.ext_getElem?
  intro k
  rw [elV_get, elV_get]
  cases hk : sh'[k]? with
  | none =>
   have : sh[k]? = none := by
    have := List.getElem?_eq_none_iff.1 hk
    exact List.getElem?_eq_none (by omega)
   rw [this]
  | some s' =>
   obtain ⟨s, h1, h2, _⟩ := wide k s' hk
   rw [h1]
   simp only [Option.map_some]
   rw [h2]
 have newv : elV sh' (evR ρ (.rcat R n (.rtab sz (argE es))) ((evI ρ n).toNat : Nat)) 0 = vs ∧ elOk sh' (evR ρ (.rcat R n (.rtab sz (argE es))) ((evI ρ n).toNat : Nat)) 0 := by
  have each : ∀ (k : Nat) (s' : Sk), sh'[k]? = some s' → ∃ v, vs[k]? = some v ∧ skV s' (evR ρ (.rcat R n (.rtab sz (argE es))) ((evI ρ n).toNat : Nat) (k : Nat)) = v ∧ skOk s' (evR ρ (.rcat R n (.rtab sz (argE es))) ((evI ρ n).toNat : Nat) (k : Nat)) := fun k s' hk => by
   obtain ⟨s, c, e, h1, h2, h3, h4⟩ := get k s' hk
   obtain ⟨v, hv, hrv⟩ := hr.get h2
   obtain ⟨m1, m2, _, _⟩ := skV_match h4 hrv
   have hlt : k < sh'.length := (List.getElem?_eq_some_iff.1 hk).1
   have : (dsOf ρ es).getD k (xI 0) = (ev ρ e).x := by
    rw [List.getD_eq_getElem?_getD]
    show (Option.getD ((es.map fun e => (ev ρ e).x)[k]?) (xI 0)) = _
    rw [List.getElem?_map, h3]; rfl
   rw [new k (by omega), this]
   exact ⟨v, hv, m1, m2⟩
  refine ⟨List.ext_getElem? fun k => ?_, elOk_of fun k s' hk => ?_⟩
  ·rw [elV_get]
   cases hk : sh'[k]? with
   | none =>
    have := List.getElem?_eq_none_iff.1 hk
    rw [List.getElem?_eq_none (l := vs) (by omega)]; rfl
   | some s' =>
    obtain ⟨v, h1, h2, _⟩ := each k s' hk
    rw [h1]
    simp only [Option.map_some, Int.zero_add]
    rw [h2]
  ·obtain ⟨v, _, _, h3⟩ := each k s' hk
   rw [Int.zero_add]; exact h3
 refine ⟨fun i hi => ?_, ?_⟩
 ·by_cases hlt : i < (evI ρ n).toNat
  ·rw [old i hlt]
   refine elOk_of fun k s' hk => ?_
   obtain ⟨s, h1, _, h3⟩ := wide k s' hk
   exact h3 _ (elOk_get (hok i hlt) h1)
  ·have : i = (evI ρ n).toNat := by omega
   subst this
   exact newv.2
 ·rw [rowV, newv.1]
  congr 1
  have : rowV sh' (evR ρ (.rcat R n (.rtab sz (argE es)))) (evI ρ n).toNat = rowV sh' (evR ρ R) (evI ρ n).toNat := rowV_congr fun i hi => by rw [old i hi]
  rw [this]
  have all : ∀ m, rowV sh' (evR ρ R) m = rowV sh (evR ρ R) m := fun m => by
   induction m with
   | zero => rfl
   | succ m ih => rw [rowV, rowV, ih, elw]
  exact all _
theorem xappend_ok {t ty : TypeId} {x y : SV} {u v : Value} {hp' : SH} (h : xappend P hp t x y = some hp') (hh : HOk ρ B w0 ls hp w) (hx : RV ρ ls x u) (hy : RV ρ ls y v) :
 ∃ z w', (Builtin.append_ #[t, t] ty #[u, v]).run P w = .ok z w' ∧ HOk ρ B w0 (ls ++ [z]) hp' w' ∧ ∃ A n c, z = .slice A n c := by
 unfold xappend at h
 split at h
 ·rename_i el ht
  split at h
  ·rename_i ie hie
   split at h
   ·rename_i zv hzv
    split at h
    ·rename_i hif
     obtain ⟨h0, hzs⟩ := hif
     split at h
     ·rename_i l2 news hnews
      obtain ⟨a, c, vs, rfl, n1, n2, n3, n4⟩ := newsOf_ok hnews hh hy
      split at h
      ·rename_i l
       split at h
       ·rename_i ty' sh R n hi hl
        split at h
        ·rename_i hb
         obtain ⟨rfl, hsh, hb1, hb2⟩ := hb
         split at h
         ·rename_i sh' es hm
          cases h
          obtain ⟨g1, _⟩ := hx
          obtain ⟨A, c', e1, e2, e3, e4, e5, e6, e7, _⟩ := hh.ent l _ hl
          rw [g1] at e1; cases e1
          have hown := e7 rfl
          rw [hsh] at hown
          have hN : ((evI ρ n).toNat : Int) = evI ρ n := by omega
          have hb2' : ((evI ρ n).toNat + 1) * ie.bytes ≤ 140737488355328 := by
           have h1 : (((evI ρ n).toNat + 1 : Nat) : Int) ≤ hi + 1 := by omega
           have h2 : (((evI ρ n).toNat + 1 : Nat) : Int) * (ie.bytes : Int) ≤ (hi + 1) * ie.bytes := Int.mul_le_mul_of_nonneg_right h1 (by omega)
           have h3 : ((((evI ρ n).toNat + 1) * ie.bytes : Nat) : Int) = (((evI ρ n).toNat + 1 : Nat) : Int) * (ie.bytes : Int) := by simp
           omega
          obtain ⟨v', w', r1, r2, r3, r4, r5⟩ := run_append_own_at (P := P) w B t ty ty' ie zv ie.size ie.bytes ht hie hzv rfl rfl hzs h0 _ _ _ hown a 1 c vs (by rw [n2]) n3 n4 (by simp only [maxLen]; omega) hb2' hh.size
          obtain ⟨A', c2, rfl⟩ := ownsRow_slice r2
          obtain ⟨q1, q2⟩ := row_more (sz := ie.size) hm n1 hsh e2 e6
          have hn' : evI ρ (eAdd n (.ic 1)) = evI ρ n + 1 := ev_eAdd ρ n (.ic 1)
          have hn2 : (evI ρ (eAdd n (.ic 1))).toNat = (evI ρ n).toNat + 1 := by rw [hn']; omega
          have hl1 := (newEl_get hm).1
          have hcap : (evI ρ n).toNat + 1 ≤ c2 := by
           rcases r2.2 with ⟨e, _⟩ | ⟨g, cap, cur, e, _, _, hc, _⟩
           ·injection e with _ e; omega
           ·injection e with _ _ e; omega
          refine ⟨_, w', r1, hh.grown hl rfl g1 r3 ownBlk ownBlk r5 ⟨A', c2, by rw [hn2]; simp, by rw [hn']; omega, by rw [hn']; omega, by rw [hn2]; exact hcap, by rw [hl1, hsh]; exact h0, by rw [hn2]; exact q1, fun _ => ?_, fun e => by cases e⟩, A', _, c2, rfl⟩
          rw [hn2, q2, hl1, hsh]; exact r2
         ·cases h
        ·cases h
       ·cases h
      ·cases h
     ·cases h
    ·cases h
   ·cases h
  ·cases h
 ·cases h
end
def skJn : Sk → Sk → Option Sk
 | .int k a b, .int k' c d => if k = k' then some (.int k (min a c) (max b d)) else none
 | .bool, .bool => some .bool
 | .opq, .opq => some .opq
 | .str a, .str b => some (.str (max a b))
 | _, _ => none
def shJn : List Sk → List Sk → Option (List Sk)
 | [], [] => some []
 | a :: r, b :: s => (match skJn a b, shJn r s with | some x, some y => some (x :: y) | _, _ => none)
 | _, _ => none
theorem skJn_le {a b c : Sk} (h : skJn a b = some c) : skLe a c = true ∧ skLe b c = true := by
 cases a <;> cases b <;> simp [skJn] at h
 ·obtain ⟨rfl, rfl⟩ := h
  simp [skLe]; omega
 ·subst h; exact ⟨rfl, rfl⟩
 ·subst h; exact ⟨rfl, rfl⟩
 ·subst h; simp [skLe]; omega
theorem shJn_le : ∀ {a b c : List Sk}, shJn a b = some c → shLe a c = true ∧ shLe b c = true
 | [], [], c, h => by cases h; exact ⟨rfl, rfl⟩
 | x :: r, y :: s, c, h => by
  simp only [shJn] at h
  split at h
  ·rename_i z t h1 h2
   cases h
   obtain ⟨i1, i2⟩ := skJn_le h1
   obtain ⟨j1, j2⟩ := shJn_le h2
   exact ⟨by simp only [shLe, Bool.and_eq_true]; exact ⟨i1, j1⟩, by simp only [shLe, Bool.and_eq_true]; exact ⟨i2, j2⟩⟩
  ·cases h
 | [], _ :: _, _, h => by cases h
 | _ :: _, [], _, h => by cases h
def kdS : SC → Option Sk
 | .int k _ lo hi => some (.int k lo hi)
 | .bool _ => some .bool
 | .str _ h => some (.str h)
 | .cst (.string s) => some (.str s.size)
 | _ => none
def kdL : List SC → Option Sk
 | [] => none
 | [c] => kdS c
 | c :: r => (match kdS c, kdL r with | some a, some b => skJn a b | _, _ => none)
def rowOf (hp : SH) : SC → Option (List Sk × E × E × Int)
 | .ow l => (match hp[l]? with
  | some ⟨_, _, .row sh R n hi⟩ => some (sh, R, n, hi)
  | some ⟨_, _, .grow 1 cs⟩ => (match kdL cs with
   | some s => (match tabE [s] [] cs with | some es => some ([s], .rtab 1 (argE es), .ic (cs.length : Nat), (cs.length : Nat)) | none => none)
   | none => none)
  | _ => none)
 | .sl l z lo n hi => (match hp[l]? with
  | some ⟨_, _, .row sh R _ _⟩ => if z == sh.length then some (sh, .rsh R lo, n, hi) else none
  | _ => none)
 | .sc l off n _ => (match hp[l]? with
  | some ⟨_, _, .cells cs⟩ => if off + n ≤ cs.length then (match kdL ((cs.drop off).take n) with
   | some s => (match tabE [s] [] ((cs.drop off).take n) with | some es => some ([s], .rtab 1 (argE es), .ic n, n) | none => none)
   | none => none) else none
  | _ => none)
 | _ => none
def kz : List Value → Option (List Sk × List E)
 | [] => some ([], [])
 | .int k n :: r => (match kz r with | some (s, e) => some (.int k n n :: s, .ic n :: e) | none => none)
 | .bool b :: r => (match kz r with | some (s, e) => some (.bool :: s, .bc b :: e) | none => none)
 | .string t :: r => (match kz r with | some (s, e) => some (.str t.size :: s, .cs t :: e) | none => none)
 | _ :: _ => none
def xmake (P : Program) (hp : SH) (t : TypeId) (x y : SV) : Option (SH × List E) :=
 match P.underlying t, x, y with
 | some (.slice el), .c (.int _ n lo hi), .c (.int _ n' _ _) => if eqE n n' then (match P.info? el with
  | some ie => (match ie.zero with
   | some z => (match kz z.cells.toList with
    | some (sh, es) => if 0 < ie.size ∧ z.cells.size = ie.size ∧ ie.bytes ≤ 100000 then some (hp ++ [⟨true, el, .row sh (.rrep (argE es)) n (min hi 1000000000)⟩], (if 0 ≤ lo then [] else [.le (.ic 0) n]) ++ (if hi ≤ 1000000000 then [] else [.le n (.ic 1000000000)])) else none
    | none => none)
   | none => none)
  | none => none) else none
 | _, _, _ => none
def xempty (P : Program) (hp : SH) (t : TypeId) : Option SH :=
 match P.underlying t with
 | some (.slice el) => (match P.info? el with
  | some ie => (match ie.zero with
   | some z => (match kz z.cells.toList with
    | some (sh, _) => if 0 < ie.size ∧ z.cells.size = ie.size then some (hp ++ [⟨true, el, .row sh (.rtab 1 .nil) (.ic 0) 0⟩]) else none
    | none => none)
   | none => none)
  | none => none)
 | _ => none
def xapp (P : Program) (hp : SH) (t : TypeId) (x y : SV) : Option SH :=
 match P.underlying t with
 | some (.slice el) => (match P.info? el with
  | some ie => (match ie.zero with
   | some z => if 0 < ie.size ∧ z.cells.size = ie.size then (match y with
    | .c sy => (match rowOf hp sy with
     | some (shy, S, m, hm) => if shy.length = ie.size then (match x with
      | .c (.cst (.slice none 0 0)) => if hm ≤ 1000000000 ∧ hm * ie.bytes ≤ 140737488355328 then some (hp ++ [⟨true, el, .row shy S m hm⟩]) else none
      | .c (.ow l) => (match hp[l]? with
       | some ⟨true, ty, .row sh R n hi⟩ => if ty = el ∧ hi + hm ≤ 1000000000 ∧ (hi + hm) * ie.bytes ≤ 140737488355328 then (match shJn sh shy with
        | some sj => some (hp.set l ⟨true, ty, .dead⟩ ++ [⟨true, el, .row sj (if eqE n (.ic 0) then S else .rcat R n S) (eAdd n m) (hi + hm)⟩])
        | none => none) else none
       | _ => none)
      | _ => none) else none
     | none => none)
    | _ => none) else none
   | none => none)
  | none => none)
 | _ => none
section
variable {P : Program} {ρ : Env} {B : Nat} {w0 w : World} {ls : Ls} {hp : SH} {tm : Tms} {a : Act} {G : E} {cf : Cfg}
theorem rowOf_ok {s : SC} {sh : List Sk} {R n : E} {hi : Int} {v : Value} (h : rowOf hp s = some (sh, R, n, hi)) (hh : HOk ρ B w0 ls hp w) (hr : RS ρ ls s v) : RowAt w sh hi (ev ρ (.mkr R n)).x v := by
 unfold rowOf at h
 split at h
 ·rename_i l
  split at h
  ·rename_i b ty sh' R' n' hi' hl
   cases h
   obtain ⟨A, c, h1, h2, h3, h4, h5, h6, h7⟩ := row_readable hh hl
   obtain ⟨g1, _⟩ := hr
   rw [g1] at h1; cases h1
   exact ⟨A, c, rfl, h2, h3, h4, h5, h6, h7⟩
  ·rename_i b ty cs hl
   split at h
   ·rename_i s hk
    split at h
    ·rename_i es ht
     cases h
     have hra : rowArg hp [s] (cs.length : Nat) (.ow l) = some (.mkr (.rtab 1 (argE es)) (.ic (cs.length : Nat)), []) := by
      simp only [rowArg, hl]
      rw [if_pos ⟨rfl, by simp⟩, ht]
      simp
     exact rowArg_ok hra (fun e he => by cases he) hh hr
    ·cases h
   ·cases h
  ·cases h
 ·rename_i l z lo n' hi'
  split at h
  ·rename_i b ty sh' R' k hk hl
   split at h
   ·rename_i hz
    cases h
    exact sl_readable hh hl (by simpa using hz) hr
   ·cases h
  ·cases h
 ·rename_i l off n' cap
  split at h
  ·rename_i b ty cs hl
   split at h
   ·rename_i hc
    split at h
    ·rename_i s hk
     split at h
     ·rename_i es ht
      cases h
      have hra : rowArg hp [s] (n' : Nat) (.sc l off n' cap) = some (.mkr (.rtab 1 (argE es)) (.ic (n' : Nat)), []) := by
       simp only [rowArg, hl]
       rw [if_pos ⟨by simpa using hc, by simp, by simp⟩]
       simp only [List.length_singleton, Nat.mul_one]
       rw [ht]
      exact rowArg_ok hra (fun e he => by cases he) hh hr
     ·cases h
    ·cases h
   ·cases h
  ·cases h
 ·cases h
theorem kz_ok : ∀ {vs : List Value} {sh : List Sk} {es : List E}, kz vs = some (sh, es) → sh.length = vs.length ∧ es.length = vs.length ∧ ∀ (p : Nat) (s : Sk), sh[p]? = some s → ∃ e v, es[p]? = some e ∧ vs[p]? = some v ∧ skV s (ev ρ e).x.y = v ∧ skOk s (ev ρ e).x.y := by
 intro vs
 induction vs with
 | nil => intro sh es h; cases h; exact ⟨rfl, rfl, fun p s hp => by simp at hp⟩
 | cons u r ih =>
  intro sh es h
  have key : ∀ {s0 : Sk} {e0 : E} {sh' : List Sk} {es' : List E}, kz r = some (sh', es') → skV s0 (ev ρ e0).x.y = u → skOk s0 (ev ρ e0).x.y → (s0 :: sh').length = (u :: r).length ∧ (e0 :: es').length = (u :: r).length ∧ ∀ (p : Nat) (s : Sk), (s0 :: sh')[p]? = some s → ∃ e v, (e0 :: es')[p]? = some e ∧ (u :: r)[p]? = some v ∧ skV s (ev ρ e).x.y = v ∧ skOk s (ev ρ e).x.y := fun {s0 e0 sh' es'} hk h1 h2 => by
   obtain ⟨i1, i2, i3⟩ := ih hk
   refine ⟨by simp [i1], by simp [i2], fun p s hp => ?_⟩
   cases p with
   | zero => simp at hp; subst hp; exact ⟨e0, u, rfl, rfl, h1, h2⟩
   | succ p => simpa using i3 p s (by simpa using hp)
  cases u <;> simp only [kz] at h <;> first | (cases h; done) | skip
  all_goals
   split at h
   ·rename_i s e hk
    cases h
    first
     | exact key hk rfl ⟨Int.le_refl _, Int.le_refl _⟩
     | exact key hk rfl trivial
     | exact key hk rfl ⟨_, rfl, rfl, Int.le_refl _⟩
   ·cases h
theorem madeCells_get {z : Array Value} {k q : Nat} (h : q < k) : (madeCells z k).toList[q]? = some (z[q % z.size]!) := by
 simp [madeCells, h]
theorem xmake_ok {t : TypeId} {x y : SV} {u v : Value} {hp' : SH} {obs : List E} (h : xmake P hp t x y = some (hp', obs)) (hh : HOk ρ B w0 ls hp w) (hob : ∀ e ∈ obs, evB ρ e = true) (hx : RV ρ ls x u) (hy : RV ρ ls y v) :
 ∃ z w', (Instr.makeSlice t u v).run P w = .ok z w' ∧ HOk ρ B w0 (ls ++ [z]) hp' w' ∧ ∃ A n c, z = .slice A n c := by
 unfold xmake at h
 split at h
 ·rename_i el kl n lo hi kc n' lo' hi' ht
  split at h
  ·rename_i he
   have he := eqE_eq he
   subst he
   split at h
   ·rename_i ie hie
    split at h
    ·rename_i z hz
     split at h
     ·rename_i sh es hk
      split at h
      ·rename_i hif
       obtain ⟨i1, i2, i4⟩ := hif
       cases h
       obtain ⟨rfl, x2, x3'⟩ := hx
       obtain ⟨rfl, _, _⟩ := hy
       have hn0 : 0 ≤ evI ρ n := by
        by_cases hc : 0 ≤ lo
        ·omega
        ·exact of_decide_eq_true (hob (.le (.ic 0) n) (by simp [hc]))
       have x3 : evI ρ n ≤ min hi 1000000000 := by
        by_cases hc : hi ≤ 1000000000
        ·omega
        ·have : evI ρ n ≤ 1000000000 := of_decide_eq_true (hob (.le n (.ic 1000000000)) (by simp [hc]))
         omega
       obtain ⟨k1, k2, k3⟩ := kz_ok (ρ := ρ) hk
       have hsz : sh.length = ie.size := by rw [k1]; simpa using i2
       have hN : ((evI ρ n).toNat : Int) = evI ρ n := Int.toNat_of_nonneg hn0
       have hbytes : ie.bytes * (evI ρ n).toNat ≤ 281474976710656 := by
        have h1 : (evI ρ n).toNat ≤ 1000000000 := by omega
        have h2 : ie.bytes * (evI ρ n).toNat ≤ 100000 * 1000000000 := Nat.mul_le_mul i4 h1
        omega
       have hb' : ((ie.bytes : Int)) * evI ρ n ≤ 281474976710656 := by
        have hb : ((ie.bytes * (evI ρ n).toNat : Nat) : Int) ≤ 281474976710656 := by omega
        rw [Int.natCast_mul, hN] at hb
        exact hb
       have hrm := run_make (P := P) w t el ie z ht hie hz kl kc (evI ρ n) (evI ρ n) hn0 (Int.le_refl _) hb' (by omega)
       refine ⟨_, _, hrm, hh.push (World.grownBy_alloc w _ none) ?_ (fun b hb => by cases hb.sl; exact Nat.le_refl _), _, _, _, rfl⟩
       have hrow : rowV sh (evR ρ (.rrep (argE es))) (evI ρ n).toNat = (madeCells z.cells ((evI ρ n).toNat * ie.size)).toList := by
        refine (rowV_ext (by simp [size_madeCells, hsz]) fun i j s hi hs => ?_).symm
        have hj : j < sh.length := (List.getElem?_eq_some_iff.1 hs).1
        have hq : i * sh.length + j < (evI ρ n).toNat * ie.size := by
         have := Nat.mul_le_mul_right ie.size (show i + 1 ≤ (evI ρ n).toNat from hi)
         rw [Nat.add_mul] at this
         rw [hsz] at hj ⊢; omega
        rw [madeCells_get hq, i2, hsz, Nat.mul_comm i, Nat.mul_add_mod, Nat.mod_eq_of_lt (by omega)]
        obtain ⟨e, v, q1, q2, q3, _⟩ := k3 j s hs
        have hR : evR ρ (.rrep (argE es)) i j = (ev ρ e).x.y := by
         show ((ev ρ (argE es)).l.getD (j : Int).toNat (xI 0)).y = _
         rw [ev_argE, Int.toNat_natCast, List.getD_eq_getElem?_getD]
         unfold dsOf
         rw [List.getElem?_map, q1]; rfl
        rw [hR, q3]
        congr 1
        have hjz : j < z.cells.size := by rw [i2, ← hsz]; exact hj
        simp only [Array.getElem!_eq_getD, Array.getD_eq_getD_getElem?]
        have q2' : z.cells[j]? = some v := by rw [← Array.getElem?_toList]; exact q2
        rw [q2']; rfl
       refine ⟨some ⟨w.heap.size, 0, none⟩, (evI ρ n).toNat, by simp, hn0, x3, Nat.le_refl _, by rw [hsz]; exact i1, fun i hi => ?_, fun _ => ?_, fun e => by cases e⟩
       ·refine elOk_of fun p s hs => ?_
        obtain ⟨e, v, q1, q2, _, q4⟩ := k3 p s hs
        have hR : evR ρ (.rrep (argE es)) i (0 + p) = (ev ρ e).x.y := by
         show ((ev ρ (argE es)).l.getD (0 + (p : Int)).toNat (xI 0)).y = _
         rw [ev_argE, Int.zero_add, Int.toNat_natCast, List.getD_eq_getElem?_getD]
         unfold dsOf
         rw [List.getElem?_map, q1]; rfl
        rw [hR]; exact q4
       ·rw [hrow, hsz]
        exact World.ownsRow_lit w _ (evI ρ n).toNat hh.size (by simp only [maxLen]; omega) (size_madeCells _ _)
      ·cases h
     ·cases h
    ·cases h
   ·cases h
  ·cases h
 ·cases h
end
section
variable {P : Program} {ρ : Env} {B : Nat} {w0 w : World} {ls : Ls} {hp : SH} {tm : Tms} {a : Act} {G : E} {cf : Cfg}
theorem xempty_ok {t : TypeId} {hp' : SH} (h : xempty P hp t = some hp') (hh : HOk ρ B w0 ls hp w) : ∃ z w', (Instr.buildSlice t 0 #[]).run P w = .ok z w' ∧ HOk ρ B w0 (ls ++ [z]) hp' w' ∧ ∃ A n c, z = .slice A n c := by
 unfold xempty at h
 split at h
 ·rename_i el ht
  split at h
  ·rename_i ie hie
   split at h
   ·rename_i z hz
    split at h
    ·rename_i sh es hk
     split at h
     ·rename_i hif
      cases h
      obtain ⟨k1, _, _⟩ := kz_ok (ρ := ρ) hk
      have hsz : sh.length = ie.size := by rw [k1]; simpa using hif.2
      have hrun : (Instr.buildSlice t 0 #[]).run P w = .ok (.slice (some ⟨w.heap.size, 0, none⟩) 0 0) (w.alloc (.cells #[] el)) := by
       have e0 : (Array.map (fun _ => (default : Value)) (Array.range 0)) = #[] := by simp [Array.range_zero']
       simp [Instr.buildSlice, run_underlying ht, sizeOf, typeInfo, hie, Instr.fill, newRow, e0]
      refine ⟨_, _, hrun, hh.push (World.grownBy_alloc w _ none) ?_ (fun b hb => by cases hb.sl; exact Nat.le_refl _), _, _, _, rfl⟩
      refine ⟨some ⟨w.heap.size, 0, none⟩, 0, by simp [evI, ev, dI, xI], Int.le_refl _, Int.le_refl _, Nat.le_refl _, by rw [hsz]; exact hif.1, fun i hi => by simp [evI, ev, dI, xI] at hi, fun _ => ?_, fun e => by cases e⟩
      have := World.ownsRow_lit (base := B) (e := el) (size := ie.size) w #[] 0 hh.size (by simp [maxLen]) (by simp)
      rw [hsz]
      simpa [evI, ev, dI, xI, rowV] using this
     ·cases h
    ·cases h
   ·cases h
  ·cases h
 ·cases h
theorem rowV_cat {sh : List Sk} {R S n : E} (h0 : 0 ≤ evI ρ n) (k : Nat) : rowV sh (evR ρ (.rcat R n S)) ((evI ρ n).toNat + k) = rowV sh (evR ρ R) (evI ρ n).toNat ++ rowV sh (evR ρ S) k := by
 rw [rowV_drop]
 have e1 : rowV sh (evR ρ (.rcat R n S)) (evI ρ n).toNat = rowV sh (evR ρ R) (evI ρ n).toNat := rowV_congr fun i hi => by
  have : evR ρ (.rcat R n S) i = evR ρ R i := by
   funext p
   exact if_pos (show (i : Int) < evI ρ n by omega)
  rw [this]
 have e2 : rowV sh (fun j p => evR ρ (.rcat R n S) (j + (evI ρ n).toNat) p) k = rowV sh (evR ρ S) k := rowV_congr fun i hi => by
  have : (fun p => evR ρ (.rcat R n S) ((i : Int) + (evI ρ n).toNat) p) = evR ρ S i := by
   funext p
   show (if (i : Int) + (evI ρ n).toNat < evI ρ n then _ else evR ρ S ((i : Int) + (evI ρ n).toNat - evI ρ n) p) = _
   rw [if_neg (by omega), show (i : Int) + (evI ρ n).toNat - evI ρ n = i by omega]
  exact congrArg (fun f => elV sh f 0) this
 rw [e1, e2]
theorem rowOk_cat {sh : List Sk} {R S n : E} {k : Nat} (h0 : 0 ≤ evI ρ n) (h1 : RowOk sh (evR ρ R) (evI ρ n).toNat) (h2 : RowOk sh (evR ρ S) k) : RowOk sh (evR ρ (.rcat R n S)) ((evI ρ n).toNat + k) := fun i hi => by
 by_cases hlt : i < (evI ρ n).toNat
 ·have : evR ρ (.rcat R n S) i = evR ρ R i := by
   funext p
   exact if_pos (show (i : Int) < evI ρ n by omega)
  rw [this]; exact h1 i hlt
 ·have : evR ρ (.rcat R n S) i = evR ρ S (i - (evI ρ n).toNat : Nat) := by
   funext p
   show (if (i : Int) < evI ρ n then _ else evR ρ S ((i : Int) - evI ρ n) p) = _
   rw [if_neg (by omega), show (i : Int) - evI ρ n = ((i - (evI ρ n).toNat : Nat) : Int) by omega]
  rw [this]; exact h2 _ (by omega)
theorem rowV_cells {sh : List Sk} {R : Int → Int → Y} : ∀ {n : Nat}, RowOk sh R n → ∀ v ∈ rowV sh R n, v.oneCell' = true := by
 intro n h v hv
 obtain ⟨q, hq⟩ := List.mem_iff_getElem?.1 hv
 have hlt : q < n * sh.length := by have := (List.getElem?_eq_some_iff.1 hq).1; rwa [rowV_len] at this
 have h0 : 0 < sh.length := Nat.pos_of_ne_zero fun e => by rw [e] at hlt; omega
 have e : q / sh.length * sh.length + q % sh.length = q := by rw [Nat.mul_comm]; exact Nat.div_add_mod q sh.length
 have hi : q / sh.length < n := Nat.div_lt_of_lt_mul (by rw [Nat.mul_comm]; exact hlt)
 have hj : q % sh.length < sh.length := Nat.mod_lt _ h0
 have hs : sh[q % sh.length]? = some sh[q % sh.length] := List.getElem?_eq_getElem hj
 have := rowV_get (R := R) hi hs
 rw [e, hq] at this
 cases this
 have hok := elOk_get (h _ hi) hs
 rw [Int.zero_add] at hok
 generalize sh[q % sh.length] = s at *
 cases s with
 | int k lo hi => rfl
 | bool => rfl
 | opq => exact hok
 | str hi => obtain ⟨t, ht, _⟩ := hok; simp only [skV]; rw [ht]; rfl
theorem run_append_none0 {t ty e : TypeId} {i : TypeInfo} {base : Nat} (ht : P.underlying t = some (.slice e)) (hi : P.info? e = some i) {v : Value} {n : Nat} {xs : List Value} (hown : w.ownsRow base e i.size v n xs) (c : Nat) :
 (Builtin.append_ #[t, t] ty #[v, .slice none 0 c]).run P w = .ok v w := by
 rcases hown.2 with ⟨rfl, rfl⟩ | ⟨g, cap, cur, rfl, _, _, hnc, _⟩
 ·simp [Builtin.append_, run_underlying ht, sizeOf, typeInfo, hi, Builtin.lenOf, Builtin.firstCells]
 ·simp [Builtin.append_, run_underlying ht, sizeOf, typeInfo, hi, Builtin.lenOf, Builtin.firstCells, hnc, storeCells]
theorem xapp_ok {t ty : TypeId} {x y : SV} {u v : Value} {hp' : SH} (h : xapp P hp t x y = some hp') (hh : HOk ρ B w0 ls hp w) (hx : RV ρ ls x u) (hy : RV ρ ls y v) :
 ∃ z w', (Builtin.append_ #[t, t] ty #[u, v]).run P w = .ok z w' ∧ HOk ρ B w0 (ls ++ [z]) hp' w' ∧ ∃ A n c, z = .slice A n c := by
 unfold xapp at h
 split at h
 ·rename_i el ht
  split at h
  ·rename_i ie hie
   split at h
   ·rename_i zv hzv
    split at h
    ·rename_i hif
     obtain ⟨h0, hzs⟩ := hif
     split at h
     ·rename_i sy
      split at h
      ·rename_i shy S m hm hro
       split at h
       ·rename_i hsy
        obtain ⟨Ay, cy, rfl, y2, y3, y4, y5, y6, y7⟩ := rowOf_ok hro hh hy
        have eI : (ev ρ (.mkr S m)).x.i = evI ρ m := rfl
        have eR : (ev ρ (.mkr S m)).x.r = evR ρ S := rfl
        rw [eI] at y2 y3 y4 y6 y7
        rw [eR] at y6 y7
        rw [eI]
        -- the general case: an own row, and the other one behind it
        have gen : ∀ {u : Value} {N : Nat} {xs : List Value}, w.ownsRow B el ie.size u N xs → N + (evI ρ m).toNat ≤ 1000000000 → (N + (evI ρ m).toNat) * ie.bytes ≤ 140737488355328 →
         ∃ z w', (Builtin.append_ #[t, t] ty #[u, .slice Ay (evI ρ m).toNat cy]).run P w = .ok z w' ∧ w'.ownsRow B el ie.size z (N + (evI ρ m).toNat) (xs ++ rowV shy (evR ρ S) (evI ρ m).toNat) ∧ w.grownBy w' u.ownBlock ∧ (z.ownBlock = u.ownBlock ∨ z.ownBlock = some w.heap.size) := fun {u N xs} hown b1 b2 => by
         by_cases hm0 : (evI ρ m).toNat = 0
         ·rw [hm0]
          have hrow0 : rowV shy (evR ρ S) 0 = [] := rfl
          rw [hrow0, List.append_nil, Nat.add_zero]
          cases hA : Ay with
          | none =>
           have hrun := run_append_none0 (ty := ty) ht hie hown cy
           exact ⟨u, w, hrun, hown, grownBy_of_below (Below.refl _ _) _, .inl rfl⟩
          | some a0 =>
           obtain ⟨v', w', r1, r2, r3, _, r5⟩ := run_append_own_at (P := P) w B t ty el ie zv ie.size ie.bytes ht hie hzv rfl rfl hzs h0 _ _ _ hown a0 0 cy [] (by simp) (fun j u hu => by simp at hu) (fun u hu => by cases hu) (by simp only [maxLen]; omega) (by simpa [hm0] using b2) hh.size
           exact ⟨v', w', r1, by simpa using r2, r3, r5⟩
         ·obtain ⟨a0, rfl, q⟩ := y7 (by omega)
          obtain ⟨v', w', r1, r2, r3, _, r5⟩ := run_append_own_at (P := P) w B t ty el ie zv ie.size ie.bytes ht hie hzv rfl rfl hzs h0 _ _ _ hown a0 (evI ρ m).toNat cy (rowV shy (evR ρ S) (evI ρ m).toNat) (by rw [rowV_len, hsy]) q (rowV_cells y6) (by simp only [maxLen]; omega) b2 hh.size
          exact ⟨v', w', r1, r2, r3, r5⟩
        have capOf : ∀ {z : Value} {N : Nat} {xs : List Value} {w' : World}, w'.ownsRow B el ie.size z N xs → ∃ A c, z = .slice A N c ∧ N ≤ c := fun {z N xs w'} hown => by
         rcases hown.2 with ⟨e, e'⟩ | ⟨g, cap, cur, e, _, _, hc, _⟩
         ·subst e'; exact ⟨none, 0, e, Nat.le_refl _⟩
         ·exact ⟨_, cap, e, hc⟩
        have bytesOf : ∀ {k hk : Int}, 0 ≤ k → k ≤ hk → hk * ie.bytes ≤ 140737488355328 → k.toNat * ie.bytes ≤ 140737488355328 := fun {k hk} k0 k1 k2 => by
         have h2 : (k.toNat : Int) * (ie.bytes : Int) ≤ hk * ie.bytes := Int.mul_le_mul_of_nonneg_right (by omega) (by omega)
         have h3 : ((k.toNat * ie.bytes : Nat) : Int) = (k.toNat : Int) * (ie.bytes : Int) := by simp
         omega
        split at h
        ·split at h
         ·rename_i hb
          obtain ⟨b1, b2⟩ := hb
          cases h
          have hu : u = .slice none 0 0 := hx
          subst hu
          obtain ⟨z, w', r1, r2, r3, r4⟩ := gen (World.ownsRow_nil w B el ie.size) (by omega) (by rw [Nat.zero_add]; exact bytesOf y2 y3 b2)
          rw [Nat.zero_add, List.nil_append] at r2
          obtain ⟨A, c, rfl, hc⟩ := capOf r2
          refine ⟨_, w', r1, hh.push r3 ?_ (fun b hb => ?_), _, _, _, rfl⟩
          ·exact ⟨A, c, by simp, y2, y3, hc, y5, y6, fun _ => by rw [hsy]; exact r2, fun e => by cases e⟩
          ·have hb := hb.sl
           rcases r4 with e | e
           ·rw [ownBlk, e] at hb; cases hb
           ·rw [ownBlk, e] at hb; cases hb; exact Nat.le_refl _
         ·cases h
        ·rename_i l
         split at h
         ·rename_i ty' sh R n hi hl
          split at h
          ·rename_i hb
           obtain ⟨rfl, b1, b2⟩ := hb
           split at h
           ·rename_i sj hj
            cases h
            obtain ⟨g1, _⟩ := hx
            obtain ⟨A, c', e1, e2, e3, e4, e5, e6, e7, _⟩ := hh.ent l _ hl
            rw [g1] at e1; cases e1
            have hown := e7 rfl
            obtain ⟨j1, j2⟩ := shJn_le hj
            have l1 := shLe_len j1
            have l2 := shLe_len j2
            have hshsz : sh.length = ie.size := by rw [l1, ← l2, hsy]
            rw [hshsz] at hown
            have hsum : (evI ρ n).toNat + (evI ρ m).toNat = (evI ρ n + evI ρ m).toNat := by omega
            obtain ⟨z, w', r1, r2, r3, r4⟩ := gen hown (by omega) (by rw [hsum]; exact bytesOf (by omega) (by omega) b2)
            obtain ⟨A', c2, rfl, hc⟩ := capOf r2
            have hn' : evI ρ (eAdd n m) = evI ρ n + evI ρ m := ev_eAdd ρ n m
            have hn2 : (evI ρ (eAdd n m)).toNat = (evI ρ n).toNat + (evI ρ m).toNat := by rw [hn']; omega
            have r6 := (shLe_row j1 (evR ρ R) (evI ρ n).toNat)
            have r7 := (shLe_row j2 (evR ρ S) (evI ρ m).toNat)
            have hcat : RowOk sj (evR ρ (if eqE n (.ic 0) then S else .rcat R n S)) ((evI ρ n).toNat + (evI ρ m).toNat) ∧ rowV sj (evR ρ (if eqE n (.ic 0) then S else .rcat R n S)) ((evI ρ n).toNat + (evI ρ m).toNat) = rowV sh (evR ρ R) (evI ρ n).toNat ++ rowV shy (evR ρ S) (evI ρ m).toNat := by
             split
             ·rename_i hz
              have hz := eqE_eq hz
              subst hz
              have z0 : (evI ρ (.ic 0)).toNat = 0 := rfl
              rw [z0, Nat.zero_add]
              exact ⟨r7.1 y6, by rw [← r7.2]; simp [rowV]⟩
             ·exact ⟨rowOk_cat e2 (r6.1 e6) (r7.1 y6), by rw [rowV_cat e2, ← r6.2, ← r7.2]⟩
            refine ⟨_, w', r1, hh.grown hl rfl g1 r3 ownBlk ownBlk r4 ⟨A', c2, by rw [hn2]; simp, by rw [hn']; omega, by rw [hn']; omega, by rw [hn2]; exact hc, by rw [← l1]; exact e5, by rw [hn2]; exact hcat.1, fun _ => ?_, fun e => by cases e⟩, _, _, _, rfl⟩
            rw [hn2, hcat.2, ← l1, hshsz]; exact r2
           ·cases h
          ·cases h
         ·cases h
        ·cases h
       ·cases h
      ·cases h
     ·cases h
    ·cases h
   ·cases h
  ·cases h
 ·cases h
end
def dstRow (hp : SH) : SV → Option (Nat × E × E × Int)
 | .c (.ow l) => (match hp[l]? with
  | some ⟨_, _, .row _ _ n hi⟩ => some (l, .ic 0, n, hi)
  | _ => none)
 | .c (.sl l z lo n hi) => if z == 1 then some (l, lo, n, hi) else none
 | _ => none
def minE (n m : E) : E := if eqE n m then n else .mn n m
def xcopy (P : Program) (hp : SH) (t : TypeId) (d s : SV) : Option (SC × SH) :=
 match P.underlying t with
 | some (.slice el) => (match szOf P el, dstRow hp d, s with
  | some 1, some (l, lo, n, hd), .c ss => (match rowOf hp ss, hp[l]? with
   | some ([s2], S, m, hm), some ⟨true, ty, .row [s1] R N H⟩ => (match skJn s1 s2 with
    | some s3 => some (.int .i64 (minE n m) 0 (min hd hm), hp.set l ⟨true, ty, .row [s3] (.rcpy R lo (minE n m) S (.ic 0)) N H⟩)
    | none => none)
   | _, _ => none)
  | _, _, _ => none)
 | _ => none
section
variable {P : Program} {ρ : Env} {B : Nat} {w0 w : World} {ls : Ls} {hp : SH} {tm : Tms} {a : Act} {G : E} {cf : Cfg}
theorem minE_ev (n m : E) : evI ρ (minE n m) = min (evI ρ n) (evI ρ m) := by
 unfold minE
 split
 ·rename_i h; rw [← eqE_eq h]; omega
 ·rfl
theorem dstRow_ok {d : SV} {l : Nat} {lo n : E} {hd : Int} {v : Value} {ty : TypeId} {s1 : Sk} {R N : E} {H : Int} (h : dstRow hp d = some (l, lo, n, hd)) (hh : HOk ρ B w0 ls hp w) (hr : RV ρ ls d v) (hl : hp[l]? = some ⟨true, ty, .row [s1] R N H⟩) :
 ∃ A C A' c, ls[l]? = some (.slice A (evI ρ N).toNat C) ∧ v = .slice A' (evI ρ n).toNat c ∧ 0 ≤ evI ρ lo ∧ 0 ≤ evI ρ n ∧ evI ρ n ≤ hd ∧ (evI ρ lo).toNat + (evI ρ n).toNat ≤ (evI ρ N).toNat ∧ (0 < (evI ρ n).toNat → ∃ a, A = some a ∧ A' = some (a.add (evI ρ lo).toNat)) := by
 obtain ⟨A, c, h1, h2, h3, h4, h5, h6, h7⟩ := row_readable hh hl
 unfold dstRow at h
 split at h
 ·rename_i l'
  split at h
  ·rename_i b ty' sh' R' n' hi' hl'
   cases h
   rw [hl] at hl'
   cases hl'
   obtain ⟨g1, _⟩ := hr
   rw [g1] at h1; cases h1
   refine ⟨A, c, A, c, g1, rfl, Int.le_refl _, h2, h3, by simp [evI, ev, dI, xI], fun h0 => ?_⟩
   obtain ⟨a0, q, _⟩ := h7 h0
   exact ⟨a0, q, by rw [q]; simp [evI, ev, dI, xI, Addr.add]⟩
  ·cases h
 ·rename_i l' z lo' n' hi'
  split at h
  ·rename_i hz
   cases h
   have hz : z = 1 := by simpa using hz
   subst hz
   obtain ⟨A0, N0, C, A', c', g1, rfl, g3, g4, g5, g6, g7, g8⟩ := hr
   rw [g1] at h1
   injection h1 with h1
   injection h1 with e1 e2 e3
   subst e1 e2 e3
   exact ⟨A0, C, A', c', g1, rfl, g3, g4, g5, g6, fun h0 => by obtain ⟨a0, q1, q2⟩ := g8 h0; exact ⟨a0, q1, by rw [q2, Nat.mul_one]⟩⟩
  ·cases h
 ·cases h
theorem row1_get {s : Sk} {R : Int → Int → Y} {n i : Nat} (hi : i < n) : (rowV [s] R n)[i]? = some (skV s (R i 0)) := by
 have := rowV_get (sh := [s]) (R := R) (j := 0) hi rfl
 simpa using this
theorem xcopy_ok {t ty' : TypeId} {x y : SV} {u v : Value} {s : SC} {hp' : SH} (h : xcopy P hp t x y = some (s, hp')) (hh : HOk ρ B w0 ls hp w) (hx : RV ρ ls x u) (hy : RV ρ ls y v) :
 ∃ z w', (Builtin.copy_ #[t, t] ty' #[u, v]).run P w = .ok z w' ∧ HOk ρ B w0 ls hp' w' ∧ RS ρ ls s z := by
 unfold xcopy at h
 split at h
 ·rename_i el ht
  split at h
  ·rename_i l lo n hd ss hsz hdr
   split at h
   ·rename_i s2 S m hm ty s1 R N H hro hl
    split at h
    ·rename_i s3 hj
     cases h
     obtain ⟨A, C, A', c, d1, rfl, d3, d4, d5, d6, d7⟩ := dstRow_ok hdr hh hx hl
     obtain ⟨Ay, cy, rfl, y2, y3, y4, y5, y6, y7⟩ := rowOf_ok hro hh hy
     have eI : (ev ρ (.mkr S m)).x.i = evI ρ m := rfl
     have eR : (ev ρ (.mkr S m)).x.r = evR ρ S := rfl
     rw [eI] at y2 y3 y4 y6 y7
     rw [eR] at y6 y7
     rw [eI]
     obtain ⟨j1, j2⟩ := skJn_le hj
     have hs1 : shLe [s1] [s3] = true := by simp [shLe, j1]
     have hs2 : shLe [s2] [s3] = true := by simp [shLe, j2]
     obtain ⟨A1, c1, e1, e2, e3, e4, e5, e6, e7, _⟩ := hh.ent l _ hl
     rw [d1] at e1
     injection e1 with e1
     injection e1 with q1 q2 q3
     subst q1 q3
     have hown := e7 rfl
     have r1 := shLe_row hs1 (evR ρ R) (evI ρ N).toNat
     have r2 := shLe_row hs2 (evR ρ S) (evI ρ m).toNat
     have hk : evI ρ (minE n m) = min (evI ρ n) (evI ρ m) := minE_ev n m
     have hkn : (evI ρ (minE n m)).toNat = Nat.min (evI ρ m).toNat (evI ρ n).toNat := by rw [hk]; show _ = min (evI ρ m).toNat (evI ρ n).toNat; omega
     have hsz1 : (P.info? el).map (·.size) = some 1 := hsz
     have val : RS ρ ls (.int .i64 (minE n m) 0 (min hd hm)) (goInt (evI ρ (minE n m)).toNat) := ⟨by rw [hk]; unfold goInt; congr 1; omega, by rw [hk]; omega, by rw [hk]; omega⟩
     have hRc : ∀ i : Nat, evR ρ (.rcpy R lo (minE n m) S (.ic 0)) i 0 = if (evI ρ lo).toNat ≤ i ∧ i < (evI ρ lo).toNat + (evI ρ (minE n m)).toNat then evR ρ S (i - (evI ρ lo).toNat : Nat) 0 else evR ρ R i 0 := fun i => by
      show (if evI ρ lo ≤ (i : Int) ∧ (i : Int) < evI ρ lo + evI ρ (minE n m) then evR ρ S ((i : Int) - evI ρ lo + 0) 0 else evR ρ R i 0) = _
      by_cases hc : (evI ρ lo).toNat ≤ i ∧ i < (evI ρ lo).toNat + (evI ρ (minE n m)).toNat
      ·rw [if_pos hc, if_pos (by omega), show (i : Int) - evI ρ lo + 0 = ((i - (evI ρ lo).toNat : Nat) : Int) by omega]
      ·rw [if_neg hc, if_neg (by omega)]
     have hok : RowOk [s3] (evR ρ (.rcpy R lo (minE n m) S (.ic 0))) (evI ρ N).toNat := fun i hi => by
      refine ⟨?_, trivial⟩
      rw [hRc]
      split
      ·rename_i hc
       have := (r2.1 y6) (i - (evI ρ lo).toNat) (by rw [hk] at hc; omega)
       exact this.1
      ·exact ((r1.1 e6) i hi).1
     by_cases hk0 : Nat.min (evI ρ m).toNat (evI ρ n).toNat = 0
     ·have hrun := run_copy_none (P := P) w t t ty' el A' Ay (evI ρ n).toNat c (evI ρ m).toNat cy ht hsz1 hk0
      refine ⟨_, w, hrun, ?_, by have := val; rw [hkn, hk0] at this; exact this⟩
      refine hh.turn hl rfl (grownBy_of_below (Below.refl _ _) none) (.inl rfl) ⟨A, C, d1, e2, e3, e4, by simp, hok, fun _ => ?_, fun e => by cases e⟩
      have e : rowV [s3] (evR ρ (.rcpy R lo (minE n m) S (.ic 0))) (evI ρ N).toNat = rowV [s1] (evR ρ R) (evI ρ N).toNat := by
       rw [r1.2]
       refine rowV_congr fun i hi => elV_congr fun q hq => ?_
       have hq0 : q = 0 := by simpa using hq
       subst hq0
       have := hRc i
       rw [if_neg (by rw [hkn, hk0]; omega)] at this
       simpa using this
      rw [e]; exact hown
     ·have hkp : 0 < Nat.min (evI ρ m).toNat (evI ρ n).toNat := Nat.pos_of_ne_zero hk0
      have hn0 : 0 < (evI ρ n).toNat := Nat.lt_of_lt_of_le hkp (Nat.min_le_right _ _)
      have hm0 : 0 < (evI ρ m).toNat := Nat.lt_of_lt_of_le hkp (Nat.min_le_left _ _)
      obtain ⟨a0, qa, qa'⟩ := d7 hn0
      obtain ⟨ay, qy, hsrc⟩ := y7 hm0
      rcases hown.2 with ⟨e_1, _⟩ | ⟨g, cap, cur, e_1, hBg, hg, hNc, hcm, hcur, htake⟩
      ·rw [qa] at e_1; cases e_1
      ·rw [qa] at e_1
       injection e_1 with e_1 e_2 e_3
       injection e_1 with e_1
       subst e_1 e_3 qy
       rw [Addr.add_lit] at qa'
       simp only [Nat.zero_add] at qa'
       subst qa'
       simp only [List.length_singleton, Nat.mul_one] at hcur htake
       have hcs : (rowV [s3] (evR ρ S) (evI ρ (minE n m)).toNat).length = Nat.min (evI ρ m).toNat (evI ρ n).toNat := by rw [rowV_len, hkn]; simp
       have hkm : (evI ρ (minE n m)).toNat ≤ (evI ρ m).toNat := by rw [hkn]; exact Nat.min_le_left _ _
       have hkn' : (evI ρ (minE n m)).toNat ≤ (evI ρ n).toNat := by rw [hkn]; exact Nat.min_le_right _ _
       have hsrc' : ∀ j v, (rowV [s3] (evR ρ S) (evI ρ (minE n m)).toNat)[j]? = some v → w.cell? (ay.add j) = some v := fun j v hv => by
        have hj : j < (evI ρ (minE n m)).toNat := by have := (List.getElem?_eq_some_iff.1 hv).1; rw [rowV_len] at this; simpa using this
        rw [row1_get hj] at hv
        refine hsrc j v ?_
        rw [r2.2, row1_get (by omega)]
        exact hv
       have hrun := run_copy_row (P := P) w t t ty' el g (evI ρ lo).toNat (evI ρ n).toNat c ay (evI ρ m).toNat cy cur ty (rowV [s3] (evR ρ S) (evI ρ (minE n m)).toNat) ht hsz1 hg hcs hsrc' (by rw [hcs, ← hkn, hcur]; omega)
        (rowV_cells (fun i hi => (r2.1 y6) i (by omega)))
       refine ⟨_, _, hrun, hh.turn hl rfl (row := some g) ⟨rfl, rfl, rfl, by simp [World.setRow], fun k _ hk => setRow_other w g k _ (fun e => hk (by rw [e]))⟩ (.inr ⟨_, rfl, .inl (by rw [d1, qa]; rfl)⟩) ⟨A, C, d1, e2, e3, e4, by simp, hok, fun _ => ?_, fun e => by cases e⟩, by have := val; rw [hkn, ← hcs] at this; exact this⟩
       have hlen3 : (cur.toList.take (evI ρ lo).toNat ++ rowV [s3] (evR ρ S) (evI ρ (minE n m)).toNat ++ cur.toList.drop ((evI ρ lo).toNat + (rowV [s3] (evR ρ S) (evI ρ (minE n m)).toNat).length)).length = C := by
        simp only [List.length_append, List.length_take, List.length_drop, Array.length_toList, hcs, ← hkn, hcur]
        omega
       rw [qa]
       refine ⟨by rw [rowV_len], .inr ⟨g, C, _, rfl, hBg, setRow_heap w g cur _ ty _ hg, hNc, hcm, by rw [List.size_toArray, hlen3]; simp, ?_⟩⟩
       have hlist : ∀ i, i < (evI ρ N).toNat → cur.toList[i]? = some (skV s3 (evR ρ R i 0)) := fun i hi => by
        have h1 := row1_get (s := s3) (R := evR ρ R) hi
        rw [← r1.2, ← htake, List.getElem?_take, if_pos hi] at h1
        exact h1
       apply List.ext_getElem?
       intro i
       by_cases hi : i < (evI ρ N).toNat
       ·rw [row1_get hi, List.getElem?_take, if_pos (by simpa using hi), hRc]
        simp only [hcs, ← hkn]
        split
        ·rename_i hc
         rw [List.append_assoc, List.getElem?_append_right (by simp; omega)]
         have e1 : i - (cur.toList.take (evI ρ lo).toNat).length = i - (evI ρ lo).toNat := by simp [hcur]; omega
         rw [e1, List.getElem?_append_left (by rw [rowV_len]; simp; omega), row1_get (by omega)]
        ·rename_i hc
         by_cases hlt : i < (evI ρ lo).toNat
         ·rw [List.append_assoc, List.getElem?_append_left (by simp [hcur]; omega), List.getElem?_take, if_pos hlt]
          exact hlist i hi
         ·rw [List.getElem?_append_right (by simp [hcur, rowV_len]; omega), List.getElem?_drop]
          have e1 : (evI ρ lo).toNat + (evI ρ (minE n m)).toNat + (i - (cur.toList.take (evI ρ lo).toNat ++ rowV [s3] (evR ρ S) (evI ρ (minE n m)).toNat).length) = i := by simp [hcur, rowV_len]; omega
          rw [e1]
          exact hlist i hi
       ·rw [List.getElem?_eq_none (by simp; omega), List.getElem?_eq_none (by rw [rowV_len]; simp; omega)]
    ·cases h
   ·cases h
  ·cases h
 ·cases h
end
def xcall (P : Program) (cf : Cfg) (tm : Tms) (hp : SH) (G : E) (f : Operand) (args : List Operand) : Option (SV × SH × Ow) :=
 match opd tm G f with
 | some (.c (.fn f [] [])) => (match opds tm G args with
  | some vs => (match findRC (rcFor cf f vs) f hp vs with
   | some (c, es, obs) => if Nat.ble (rowsR c.fs c.res).length 1 then some ((rOut cf c es hp.length).1, hp ++ (rOut cf c es hp.length).2, ⟨obs, preOf cf c.pre es⟩) else none
   | none => none)
  | none => none)
 | _ => none
section
variable {P : Program} {ρ : Env} {B : Nat} {w0 w w' : World} {ls : Ls} {hp : SH} {tm : Tms} {a : Act} {G : E} {cf : Cfg}
theorem xcall_ok {f : Operand} {args : List Operand} {v : SV} {hp' : SH} {ow : Ow} (h : xcall P cf tm hp G f args = some (v, hp', ow)) (hc : CfgOk P ρ cf) (hw : ow.Ok ρ) (hr : RTm ρ ls tm a) (hG : evB ρ G = true) (hh : HOk ρ B w0 ls hp w) :
 ∃ (f' : FuncId) (fn : Func), a.eval f = .func (.func f') #[] #[] ∧ P.funcs[f']? = some fn ∧ fn.body.isSome = true ∧ (fn.name == "runtime.NumGoroutine") = false ∧
  Calls P f' (args.map a.eval).toArray w fun e w' => ∃ z, e = .returned z ∧ ∃ ls', Ext ls ls' ∧ HOk ρ B w0 ls' hp' w' ∧ RV ρ ls' v z := by
 unfold xcall at h
 split at h
 ·rename_i f' hf
  obtain ⟨fs, cs, he, q1, q2⟩ := opd_ok hf hr hG
  have hfs : fs = [] := by cases fs with | nil => rfl | cons _ _ => exact q1.elim
  have hcs : cs = [] := by cases cs with | nil => rfl | cons _ _ => exact q2.elim
  subst hfs hcs
  split at h
  ·rename_i vs hvs
   split at h
   ·rename_i c es obs hfc
    obtain ⟨m1, m2, ha⟩ := findRC_ok hfc
    have m1 := rcFor_mem m1
    obtain ⟨k1, fn, k2, k3, k4⟩ := hc.rctr c m1
    split at h
    ·rename_i hle
     cases h
     refine ⟨f', fn, he, by rw [← m2]; exact k2, k3, k4, ?_⟩
     have hargs := rArgs_ok hh ha hw.1 (opds_ok hr hG hvs)
     have hcall := k1 (dsOf ρ es) (args.map a.eval) w (hh.glob.up hh.size) hargs (preOf_ok hc.pb hw.2)
     rw [m2] at hcall
     refine hcall.mono fun e w' ⟨z, g1, g2, g3⟩ => ⟨z, g1, ?_⟩
     exact (hh.calls g3).result hc hh.size (fun i y b hy hb => rd_blk hh.size (hh.ent i y hy) hb) g2 (Nat.le_of_ble_eq_true hle)
    ·cases h
   ·cases h
  ·cases h
 ·cases h
end
def growNil (P : Program) (tm : Tms) (hp : SH) (G : E) (op : BinOp) (t : TypeId) (x y : Operand) : Option Bool :=
 match opd tm G x, opd tm G y, isSlT P t with
 | some (.c (.ow l)), some (.c (.cst (.slice none 0 0))), true => (match hp[l]? with
  | some ⟨_, _, .grow _ (_ :: _)⟩ => (match op with | .eql => some false | .neq => some true | _ => none)
  | _ => none)
 | _, _, _ => none
section
variable {P : Program} {ρ : Env} {B : Nat} {w0 w : World} {ls : Ls} {hp : SH} {tm : Tms} {a : Act} {G : E} {cf : Cfg}
theorem ownBlk_of {u : Value} {n : Nat} {e : TypeId} {xs : List Value} (h : w.ownsRow B e 1 u n xs) : blkOf (some u) = u.ownBlock := by
 obtain ⟨A, c, rfl⟩ := ownsRow_slice h
 exact ownBlk
def famApp (hp : SH) (l la : Nat) (el tya : TypeId) (K : Nat) (Q i e : E) (s : Sk) (hi : Int) : SH :=
 @List.set HE (hp.set l ⟨true, el, .dead⟩ ++ [⟨true, el, .fam K (.rset (.rset Q i (eSel Q i (.ic (-1))) e) i (.ic (-1)) (.add (eSel Q i (.ic (-1))) (.ic 1))) s hi⟩]) la ⟨true, tya, .farr hp.length (some i)⟩
theorem fApp_ok {t ty el : TypeId} {ie : TypeInfo} {zv : Value} {l la K l2 : Nat} {i Q e : E} {k : IntKind} {lo hs lo2 hs2 hi : Int} {y : SV} {u v : Value} (ht : P.underlying t = some (.slice el)) (hie : P.info? el = some ie) (hz : ie.zero = some zv) (hsz : ie.size = 1) (hzs : zv.cells.size = 1)
 (hl : hp[l]? = some ⟨true, el, .fam K Q (.int k lo hs) hi⟩) (hla : findA hp l 0 = some la) (hn : newsOf hp 1 y = some (1, l2, [.int k e lo2 hs2])) (h1 : lo ≤ lo2) (h2 : hs2 ≤ hs) (hb1 : hi ≤ 1000000000) (hb2 : hi * ie.bytes ≤ 140737488355328)
 (hob : evB ρ (.lt (eSel Q i (.ic (-1))) (.ic hi)) = true) (hh : HOk ρ B w0 ls hp w) (hu : RS ρ ls (.fs l i) u) (hv : RV ρ ls y v) :
 ∃ z w' ls' tya, hp[la]? = some ⟨true, tya, .farr l none⟩ ∧ (Builtin.append_ #[t, t] ty #[u, v]).run P w = .ok z w' ∧ Ext ls ls' ∧ HOk ρ B w0 ls' (famApp hp l la el tya K Q i e (.int k lo hs) hi) w' ∧ RS ρ ls' (.fs hp.length i) z := by
 obtain ⟨_, tya, hla⟩ := findA_ok hla
 rw [Nat.sub_zero] at hla
 obtain ⟨A, n, c, rfl, e1, e2, e3, e4, e5, e6⟩ := fLen_ok hl hh hu
 obtain ⟨vs, g1, g2, g3, _⟩ := hu
 obtain ⟨_, vs', q1, q2, q3, q4⟩ := hh.ent l _ hl
 rw [g1] at q1
 cases q1
 obtain ⟨ad, cc, us, rfl, n1, n2, n3, n4⟩ := newsOf_ok hn hh hv
 have hus : ∃ x, us = [x] ∧ x = .int k (evI ρ e) ∧ lo2 ≤ evI ρ e ∧ evI ρ e ≤ hs2 := by
  match us, n1 with
  | [x], n1 => exact ⟨x, rfl, n1.1⟩
 obtain ⟨x, rfl, rfl, x1, x2⟩ := hus
 have hlt : evI ρ (eSel Q i (.ic (-1))) < hi := of_decide_eq_true hob
 rw [e1] at hlt
 have hbytes : (n + 1) * ie.bytes ≤ 140737488355328 := by
  have h3 : ((n + 1 : Nat) : Int) * (ie.bytes : Int) ≤ hi * ie.bytes := Int.mul_le_mul_of_nonneg_right (by omega) (by omega)
  have h4 : (((n + 1) * ie.bytes : Nat) : Int) = ((n + 1 : Nat) : Int) * (ie.bytes : Int) := by simp
  omega
 obtain ⟨z, w', r1, r2, r3, _, r5⟩ := run_append_own_at (P := P) w B t ty el ie zv 1 ie.bytes ht hie hz hsz rfl hzs (by omega) _ _ _ e4 ad 1 cc [.int k (evI ρ e)] rfl n3 n4 (by simp only [maxLen]; omega) hbytes hh.size
 obtain ⟨A', c2, rfl⟩ := ownsRow_slice r2
 have hik : (((evI ρ i).toNat : Nat) : Int) = evI ρ i := by omega
 have hne : la ≠ l := fun h => by rw [h, hl] at hla; cases hla
 have hll : l < hp.length := (List.getElem?_eq_some_iff.1 hl).1
 have hlal : la < hp.length := (List.getElem?_eq_some_iff.1 hla).1
 have hlK : (evI ρ i).toNat < vs.size := by rw [q2]; exact e6
 -- what the new lists hold
 have Qi : ∀ p : Int, evR ρ (.rset (.rset Q i (eSel Q i (.ic (-1))) e) i (.ic (-1)) (.add (eSel Q i (.ic (-1))) (.ic 1))) (evI ρ i) p = if p = -1 then (xI (n + 1)).y else if p = n then (ev ρ e).x.y else evR ρ Q (evI ρ i) p := fun p => by
  show (if evI ρ i = evI ρ i ∧ p = -1 then (ev ρ (.add (eSel Q i (.ic (-1))) (.ic 1))).x.y else if evI ρ i = evI ρ i ∧ p = evI ρ (eSel Q i (.ic (-1))) then (ev ρ e).x.y else evR ρ Q (evI ρ i) p) = _
  rw [e1]
  have : (ev ρ (.add (eSel Q i (.ic (-1))) (.ic 1))).x.y = (xI (n + 1)).y := by
   show (xI (evI ρ (eSel Q i (.ic (-1))) + 1)).y = _
   rw [e1]
  rw [this]
  simp
 have Qj : ∀ j p : Int, j ≠ evI ρ i → evR ρ (.rset (.rset Q i (eSel Q i (.ic (-1))) e) i (.ic (-1)) (.add (eSel Q i (.ic (-1))) (.ic 1))) j p = evR ρ Q j p := fun j p hj => by
  show (if j = evI ρ i ∧ p = -1 then _ else if j = evI ρ i ∧ p = _ then _ else evR ρ Q j p) = _
  rw [if_neg fun h => hj h.1, if_neg fun h => hj h.1]
 have hfresh : ∀ {b : Nat}, (Value.slice A' (n + 1) c2).ownBlock = some b → (Value.slice A n c).ownBlock = some b ∨ b = w.heap.size := fun {b} hb => by
  rcases r5 with h | h
  ·left; rw [← h]; exact hb
  ·right; rw [h] at hb; exact (Option.some.inj hb).symm
 have hold : ∀ {j : Nat} {u : Value}, vs[j]? = some u → ∀ b, blkOf (some u) = some b → b < w.heap.size := fun {j u} hj b hb => by
  have hjK : j < K := by rw [← q2]; exact (Array.getElem?_eq_some_iff.1 hj).1
  obtain ⟨A1, n1, c1, p1, _, _, _, p5⟩ := q3 j hjK
  rw [hj] at p1
  cases p1
  exact (p5.lt b (by rw [← ownBlk]; exact hb)).2
 have hcase : ∀ {j : Nat} {u : Value}, (vs.setIfInBounds (evI ρ i).toNat (.slice A' (n + 1) c2))[j]? = some u → (j = (evI ρ i).toNat ∧ u = .slice A' (n + 1) c2) ∨ (j ≠ (evI ρ i).toNat ∧ vs[j]? = some u) := fun {j u} hj => by
  by_cases h : j = (evI ρ i).toNat
  ·subst h
   rw [Array.getElem?_setIfInBounds_self_of_lt hlK] at hj
   exact .inl ⟨rfl, (Option.some.inj hj).symm⟩
  ·rw [Array.getElem?_setIfInBounds_ne (Ne.symm h)] at hj
   exact .inr ⟨h, hj⟩
 have hG : HOk ρ B w0 (ls ++ [.agg (vs.setIfInBounds (evI ρ i).toNat (.slice A' (n + 1) c2))]) (hp.set l ⟨true, el, .dead⟩ ++ [⟨true, el, .fam K (.rset (.rset Q i (eSel Q i (.ic (-1))) e) i (.ic (-1)) (.add (eSel Q i (.ic (-1))) (.ic 1))) (.int k lo hs) hi⟩]) w' := by
  refine hh.grownG hl rfl g1 r3 (fun b hb => ?_) (fun b hb => ?_) ⟨rfl, vs.setIfInBounds (evI ρ i).toNat (.slice A' (n + 1) c2), by simp, by simp [q2], fun j hj => ?_, fun j j' u u' b hu hu' hb hb' => ?_⟩
  ·cases hA : A with
   | none => rw [hA] at hb; cases hb
   | some a0 =>
    rw [hA] at hb g2
    exact .inr ⟨vs, _, a0, n, c, rfl, g2, Option.some.inj hb⟩
  ·obtain ⟨j, a0, m, c0, hj, hbb⟩ := hb.fam
   rcases hcase hj with ⟨_, h⟩ | ⟨_, h⟩
   ·cases h
    rcases hfresh (b := b) (by rw [← hbb]; rfl) with h | h
    ·cases hA : A with
     | none => rw [hA] at h; cases h
     | some a1 =>
      rw [hA] at h g2
      exact .inl (.inr ⟨vs, _, a1, n, c, rfl, g2, Option.some.inj h⟩)
    ·exact .inr (by omega)
   ·exact .inl (.inr ⟨vs, j, a0, m, c0, rfl, h, hbb⟩)
  ·by_cases h : j = (evI ρ i).toNat
   ·subst h
    rw [hik]
    refine ⟨A', n + 1, c2, by rw [Array.getElem?_setIfInBounds_self_of_lt hlK], by rw [Qi]; rfl, by omega, fun m hm => ?_, ?_⟩
    ·rw [Qi, if_neg (by omega)]
     by_cases hmn : (m : Int) = n
     ·rw [if_pos hmn]
      exact ⟨by show lo ≤ evI ρ e; omega, by show evI ρ e ≤ hs; omega⟩
     ·rw [if_neg hmn]
      exact e3 m (by omega)
    ·have : famV (.int k lo hs) (evR ρ (.rset (.rset Q i (eSel Q i (.ic (-1))) e) i (.ic (-1)) (.add (eSel Q i (.ic (-1))) (.ic 1)))) (evI ρ i).toNat (n + 1) = famV (.int k lo hs) (evR ρ Q) (evI ρ i).toNat n ++ [.int k (evI ρ e)] := by
      unfold famV
      rw [List.range_succ, List.map_append, hik]
      congr 1
      ·refine List.map_congr_left fun m hm => ?_
       have := List.mem_range.1 hm
       rw [Qi, if_neg (by omega), if_neg (by omega)]
      ·simp only [List.map_cons, List.map_nil]
       rw [Qi, if_neg (by omega), if_pos rfl]
       rfl
     rw [this]; exact r2
   ·have hj' : (j : Int) ≠ evI ρ i := fun h' => h (by omega)
    obtain ⟨A1, m, c1, p1, p2, p3, p4, p5⟩ := q3 j hj
    refine ⟨A1, m, c1, by rw [Array.getElem?_setIfInBounds_ne (Ne.symm h)]; exact p1, by rw [Qj _ _ hj']; exact p2, p3, fun x hx => by rw [Qj _ _ hj']; exact p4 x hx, ?_⟩
    have : famV (.int k lo hs) (evR ρ (.rset (.rset Q i (eSel Q i (.ic (-1))) e) i (.ic (-1)) (.add (eSel Q i (.ic (-1))) (.ic 1)))) j m = famV (.int k lo hs) (evR ρ Q) j m := by
     unfold famV
     exact List.map_congr_left fun x _ => by rw [Qj _ _ hj']
    rw [this]
    refine p5.kept r3 ?_
    cases hb : (Value.slice A1 m c1).ownBlock with
    | none => exact .inl rfl
    | some b =>
     refine .inr fun hbb => h ?_
     exact q4 j _ _ _ b p1 g2 (by rw [ownBlk]; exact hb) (by rw [ownBlk, ← hbb])
  ·rcases hcase hu with ⟨h, h'⟩ | ⟨h, h'⟩ <;> rcases hcase hu' with ⟨g, g'⟩ | ⟨g, g'⟩
   ·rw [h, g]
   ·subst h'
    rw [ownBlk] at hb
    rcases hfresh hb with h1 | h1
    ·exact absurd (q4 j' _ _ _ b g' g2 hb' (by rw [ownBlk]; exact h1)) g
    ·have := hold g' b hb'; omega
   ·subst g'
    rw [ownBlk] at hb'
    rcases hfresh hb' with h1 | h1
    ·exact absurd (q4 j _ _ _ b h' g2 hb (by rw [ownBlk]; exact h1)) h
    ·have := hold h' b hb; omega
   ·exact q4 j j' u u' b h' g' hb hb'
 have hev : Ext ls (ls ++ [.agg (vs.setIfInBounds (evI ρ i).toNat (.slice A' (n + 1) c2))]) := Ext.snoc ls _
 have hlar : (hp.set l ⟨true, el, .dead⟩ ++ [⟨true, el, .fam K (.rset (.rset Q i (eSel Q i (.ic (-1))) e) i (.ic (-1)) (.add (eSel Q i (.ic (-1))) (.ic 1))) (.int k lo hs) hi⟩])[la]? = some ⟨true, tya, .farr l none⟩ := by
  rw [List.getElem?_append_left (by rw [List.length_set]; exact hlal), List.getElem?_set_ne (Ne.symm hne)]
  exact hla
 refine ⟨_, w', _, tya, hla, r1, hev, ?_, ?_⟩
 ·show HOk ρ B w0 _ (@List.set HE _ la ⟨true, tya, .farr hp.length (some i)⟩) w'
  refine hG.turn hlar rfl (grownBy_of_below (Below.refl _ _) none) (.inl rfl) ?_
  obtain ⟨_, L, us', cs, p1, p2, p3, p4, p5, p6⟩ := hG.ent la _ hlar
  rw [hev _ _ g1] at p2
  cases p2
  refine ⟨rfl, L, vs.setIfInBounds (evI ρ i).toNat (.slice A' (n + 1) c2), cs, p1, by rw [← hh.len]; simp, p3, p4, by simp [p5], fun j hj => ?_⟩
  have hji : j ≠ (evI ρ i).toNat := fun h => hj i rfl h.symm
  rw [Array.getElem?_setIfInBounds_ne (Ne.symm hji)]
  exact p6 j fun e he => by cases he
 ·exact ⟨_, by rw [← hh.len]; simp, Array.getElem?_setIfInBounds_self_of_lt hlK, g3, A', n + 1, c2, rfl⟩
theorem fSt_ok {t : TypeId} {l l3 K K' : Nat} {i i0 i' Q : E} {s : Sk} {hi : Int} {b' : Bool} {ty ty' : TypeId} {u v : Value} (hsz : szOf P t = some 1) (hl : hp[l]? = some ⟨true, ty, .farr l3 (some i0)⟩) (hl3 : hp[l3]? = some ⟨b', ty', .fam K' Q s hi⟩) (hK : K = K') (h1 : eqE i i0 = true) (h2 : eqE i' i0 = true)
 (hh : HOk ρ B w0 ls hp w) (hu : RS ρ ls (.pf l K i) u) (hv : RS ρ ls (.fs l3 i') v) : ∃ ad w', u = .pointer (some ad) ∧ (storeVar t ad v).run P w = .ok () w' ∧ HOk ρ B w0 ls (hp.set l ⟨true, ty, .farr l3 none⟩) w' := by
 have h1 := eqE_eq h1
 have h2 := eqE_eq h2
 subst h1 h2 hK
 obtain ⟨a', ha, rfl, p1, p2⟩ := hu
 obtain ⟨vs, g1, g2, g3, A, n, c, rfl⟩ := hv
 obtain ⟨_, L, us, cs, q1, q2, q3, q4, q5, q6⟩ := hh.ent l _ hl
 rw [q1] at ha
 cases ha
 rw [g1] at q2
 cases q2
 have hlt : (evI ρ i').toNat < vs.size := (Array.getElem?_eq_some_iff.1 g2).1
 rw [Addr.add_lit, Nat.zero_add]
 have hcell : w.cell? ⟨L, (evI ρ i').toNat, none⟩ = some (cs[(evI ρ i').toNat]'(by omega)) := by
  rw [cell_of_row w L _ _ _ _ q4]; simp
 have hst : (store ⟨L, (evI ρ i').toNat, none⟩ (.slice A n c)).run P w = .ok () (w.setCell ⟨L, (evI ρ i').toNat, none⟩ (.slice A n c)) := by
  rw [run_store P w _ _ .plain rfl, hcell, frozen_of_row w L _ _ _ q4]
  rfl
 refine ⟨_, w.setCell ⟨L, (evI ρ i').toNat, none⟩ (.slice A n c), rfl, ?_, ?_⟩
 ·have e0 : (⟨L, (evI ρ i').toNat, none⟩ : Addr).add 0 = ⟨L, (evI ρ i').toNat, none⟩ := by rw [Addr.add_lit]; rfl
  simp [storeVar, run_sizeOf hsz, Value.cells, storeCells, e0, hst]
 ·refine hh.turn hl rfl (grownBy_setCell w L _ _) (.inr ⟨L, rfl, .inl (by rw [q1]; rfl)⟩) ?_
  refine ⟨rfl, L, vs, cs.setIfInBounds (evI ρ i').toNat (.slice A n c), q1, g1, q3, heap_setCell_same w L _ _ ty _ q4, by simp [q5], fun j _ => ?_⟩
  by_cases h : j = (evI ρ i').toNat
  ·subst h
   rw [Array.getElem?_setIfInBounds_self_of_lt (by omega), g2]
  ·rw [Array.getElem?_setIfInBounds_ne (Ne.symm h)]
   exact q6 j fun e he => by cases he; exact Ne.symm h
end
def opFE (P : Program) (tm : Tms) (hp : SH) (G : E) (o : Oper) : Option (SV × SH × Ow) := match o.op with
 | .range t x => (match opd tm G x, isStrT P t with
  | some (.c (.str e hi)), true => some (.c (.ptr hp.length 0), hp ++ [⟨true, 0, .iter e (.ic 0) hi⟩], ⟨[], none⟩)
  | _, _ => none)
 | .makeMap t none => (match mapT P t with
  | some _ => some (.c (.mp hp.length), hp ++ [⟨true, 0, .mset (.rtab 1 .nil) (.ic 0) 1000000⟩], ⟨[], none⟩)
  | none => none)
 | .mapUpdate t m k x => (match opd tm G m, opd tm G k, opd tm G x, mapT P t with
  | some (.c (.mp l)), some (.c (.str e _)), some (.c (.cst (.bool true))), some _ => (match hp[l]? with
   | some ⟨true, ty, .mset R n hi⟩ => some (.c .und, hp.set l ⟨true, ty, .mset (.rset R n (.ic 0) e) (eAdd n (.ic 1)) hi⟩, ⟨[eNot (.mem R n e), .lt n (.ic hi)], none⟩)
   | _ => none)
  | some (.c (.mp l)), some (.c (.str e _)), some (.c (.bool (.bc true))), some _ => (match hp[l]? with
   | some ⟨true, ty, .mset R n hi⟩ => some (.c .und, hp.set l ⟨true, ty, .mset (.rset R n (.ic 0) e) (eAdd n (.ic 1)) hi⟩, ⟨[eNot (.mem R n e), .lt n (.ic hi)], none⟩)
   | _ => none)
  | _, _, _, _ => none)
 | .call { callee := .builtin .append, args, argTypes } => (match args.toList, argTypes.toList with
  | [x, y], [t, t'] => if t = t' then (match opd tm G x, opd tm G y, P.underlying t with
   | some (.c (.fs l i)), some v, some (.slice el) => (match hp[l]?, findA hp l 0, newsOf hp 1 v, P.info? el with
    | some ⟨true, el', .fam K Q (.int k lo hs) hi⟩, some la, some (1, _, [.int k' e lo2 hs2]), some ie => (match hp[la]? with
     | some ⟨_, tya, _⟩ => if el' = el ∧ k' = k ∧ lo ≤ lo2 ∧ hs2 ≤ hs ∧ hi ≤ 1000000000 ∧ hi * ie.bytes ≤ 140737488355328 ∧ ie.size = 1 ∧ (ie.zero.any fun z => z.cells.size == 1) = true then some (.c (.fs hp.length i), famApp hp l la el tya K Q i e (.int k lo hs) hi, ⟨[.lt (eSel Q i (.ic (-1))) (.ic hi)], none⟩) else none
     | none => none)
    | _, _, _, _ => none)
   | _, _, _ => none) else none
  | _, _ => none)
 | .store t x y => (match opd tm G x, opd tm G y with
  | some (.c (.pf l K i)), some (.c (.fs l3 i')) => (match hp[l]?, hp[l3]? with
   | some ⟨true, ty, .farr l3' (some i0)⟩, some ⟨_, _, .fam K' Q s hi⟩ => if szOf P t = some 1 ∧ l3' = l3 ∧ K = K' ∧ eqE i i0 = true ∧ eqE i' i0 = true then some (.c .und, hp.set l ⟨true, ty, .farr l3 none⟩, ⟨[], none⟩) else none
   | _, _ => none)
  | _, _ => none)
 | _ => none
section
variable {P : Program} {ρ : Env} {B : Nat} {w0 w : World} {ls : Ls} {hp : SH} {tm : Tms} {a : Act} {G : E} {cf : Cfg}
theorem newmap_ok {t : TypeId} (hh : HOk ρ B w0 ls hp w) :
 ∃ z w' ls', (Instr.makeMap t none).run P w = .ok z w' ∧ Ext ls ls' ∧ HOk ρ B w0 ls' (hp ++ [⟨true, 0, .mset (.rtab 1 .nil) (.ic 0) 1000000⟩]) w' ∧ RS ρ ls' (.mp hp.length) z := by
 refine ⟨.map (some w.heap.size), w.alloc (.map #[] 0), ls ++ [.pointer (some ⟨w.heap.size, 0, none⟩)], by simp only [Instr.makeMap, Sem.run_bind, Sem.run_pure, Result.andThen_ok, run_newObj]; rfl, Ext.snoc ls _, hh.push (World.grownBy_alloc w _ none) ⟨rfl, w.heap.size, #[], 0, by simp, hh.size, heap_alloc_new w _, Int.le_refl _, ?_, rfl, fun j e he => by simp at he⟩ (fun b hb => by cases hb.ptr; exact Nat.le_refl _), ⟨w.heap.size, by rw [← hh.len]; simp, rfl⟩⟩
 show (0 : Int) ≤ 1000000
 omega
theorem opFE_ok {o : Oper} {v : SV} {hp' : SH} {ow : Ow} (h : opFE P tm hp G o = some (v, hp', ow)) (hw : ow.Ok ρ) (hr : RTm ρ ls tm a) (hG : evB ρ G = true) (hh : HOk ρ B w0 ls hp w) :
 upR P (fun z w' => ∃ ls', Ext ls ls' ∧ HOk ρ B w0 ls' hp' w' ∧ RV ρ ls' v z) ((execOp a.eval o).run P w) := by
 obtain ⟨dst, op, ty, pos, after, guard⟩ := o
 unfold opFE at h
 simp only at h
 split at h
 ·rename_i t x
  split at h
  ·rename_i e hi hx ht
   cases h
   obtain ⟨z, w', q1, q2, q3⟩ := range_ok (isStrT_ok ht) hh (opd_ok hx hr hG)
   have hrun : (execOp a.eval ⟨dst, .range t x, ty, pos, after, guard⟩).run P w = .ok (.value z) w' := by
    simp only [execOp, Sem.run_bind, q1, Result.andThen_ok, Sem.run_pure]
   rw [hrun]
   exact ⟨_, Ext.snoc ls _, q2, q3⟩
  ·cases h
 ·rename_i t
  split at h
  ·rename_i p hm
   cases h
   obtain ⟨z, w', ls', q1, q0, q2, q3⟩ := newmap_ok (P := P) (t := t) hh
   have hrun : (execOp a.eval ⟨dst, .makeMap t none, ty, pos, after, guard⟩).run P w = .ok (.value z) w' := by
    simp only [execOp, Option.map_none, Sem.run_bind, q1, Result.andThen_ok, Sem.run_pure]
   rw [hrun]
   exact ⟨_, q0, q2, q3⟩
  ·cases h
 ·rename_i t m k x
  have fin : ∀ {l : Nat} {e : E} {eh : Int} {p : TypeId × TypeId} {ty' : TypeId} {R n : E} {hi : Int}, opd tm G m = some (.c (.mp l)) → opd tm G k = some (.c (.str e eh)) → a.eval x = .bool true → mapT P t = some p → hp[l]? = some ⟨true, ty', .mset R n hi⟩ → (⟨[eNot (.mem R n e), .lt n (.ic hi)], none⟩ : Ow).Ok ρ →
   upR P (fun z w' => ∃ ls', Ext ls ls' ∧ HOk ρ B w0 ls' (hp.set l ⟨true, ty', .mset (.rset R n (.ic 0) e) (eAdd n (.ic 1)) hi⟩) w' ∧ RV ρ ls' (.c .und) z) ((execOp a.eval ⟨dst, .mapUpdate t m k x, ty, pos, after, guard⟩).run P w) := fun {l e eh p ty' R n hi} hm hk hx hp0 hl hw => by
   obtain ⟨m1, m2, m3⟩ := mapT_ok (kt := p.1) (et := p.2) hp0
   obtain ⟨str, h1, h2, _⟩ := opd_ok hk hr hG
   have o1 := hw.1 _ (List.mem_cons_self ..)
   have o2 := hw.1 (.lt n (.ic hi)) (by simp)
   have o1 : evB ρ (.mem R n e) = false := by
    have q : evB ρ (eNot (.mem R n e)) = !evB ρ (.mem R n e) := ev_eNot ρ _
    rw [q, Bool.not_eq_true'] at o1
    exact o1
   obtain ⟨w', q1, q2⟩ := upd_ok (P := P) m1 m2 hl hh (opd_ok hm hr hG) h1 h2 o1 o2
   have hrun : (execOp a.eval ⟨dst, .mapUpdate t m k x, ty, pos, after, guard⟩).run P w = .ok .skip w' := by
    simp only [execOp, hx, Sem.run_bind, q1, Result.andThen_ok, Sem.run_pure]
   rw [hrun]
   exact ⟨ls, Ext.refl _, q2, trivial⟩
  split at h
  ·rename_i l e eh p hm hk hx hp0
   split at h
   ·rename_i ty' R n hi hl
    cases h
    exact fin hm hk (opd_ok hx hr hG) hp0 hl hw
   ·cases h
  ·rename_i l e eh p hm hk hx hp0
   split at h
   ·rename_i ty' R n hi hl
    cases h
    exact fin hm hk (opd_ok hx hr hG) hp0 hl hw
   ·cases h
  ·cases h
 ·rename_i args argTypes
  split at h
  ·rename_i x y t t' hargs hts
   split at h
   ·rename_i he
    subst he
    split at h
    ·rename_i l i v' el hu hv ht
     split at h
     ·rename_i el' K Q k lo hs hi la l2 k' e lo2 hs2 ie hl hla hn hie
      split at h
      ·rename_i _ tya _ hla'
       split at h
       ·rename_i hc
        obtain ⟨rfl, rfl, c1, c2, c3, c4, c5, c6⟩ := hc
        cases h
        obtain ⟨zv, hz, hzs⟩ := (Option.any_eq_true _ _).1 c6
        obtain ⟨z, w', ls', tya', p1, p2, p3, p4, p5⟩ := fApp_ok (ty := ty) ht hie hz c5 (by simpa using hzs) hl hla hn c1 c2 c3 c4 (hw.1 _ (List.mem_cons_self ..)) hh (opd_ok hu hr hG) (opd_ok hv hr hG)
        rw [hla'] at p1
        cases p1
        have ea : args = #[x, y] := by rw [show args = args.toList.toArray by simp, hargs]
        have et : argTypes = #[t, t] := by rw [show argTypes = argTypes.toList.toArray by simp, hts]
        have hrun : (execOp a.eval ⟨dst, .call { callee := .builtin .append, args, argTypes }, ty, pos, after, guard⟩).run P w = .ok (.value z) w' := by
         simp only [execOp, resolve, invoke, builtin, ea, et, Sem.run_bind, Sem.run_pure, Result.andThen_ok, List.map_toArray, List.map_cons, List.map_nil, p2]
        rw [hrun]
        exact ⟨ls', p3, p4, p5⟩
       ·cases h
      ·cases h
     ·cases h
    ·cases h
   ·cases h
  ·cases h
 ·rename_i t x y
  split at h
  ·rename_i l K i l3 i' hx hy
   split at h
   ·rename_i ty' l3' i0 _ _ K' Q s hi hl hl3
    split at h
    ·rename_i hc
     obtain ⟨c1, rfl, rfl, c4, c5⟩ := hc
     cases h
     obtain ⟨ad, w', he, q1, q2⟩ := fSt_ok (P := P) c1 hl hl3 rfl c4 c5 hh (opd_ok hx hr hG) (opd_ok hy hr hG)
     have hrun : (execOp a.eval ⟨dst, .store t x y, ty, pos, after, guard⟩).run P w = .ok .skip w' := by
      simp only [execOp, Instr.storeAt, Instr.sureAddr, he, Sem.run_bind, Sem.run_pure, q1, Result.andThen_ok]
     rw [hrun]
     exact ⟨ls, Ext.refl _, q2, trivial⟩
    ·cases h
   ·cases h
  ·cases h
 ·cases h
end
def opX0 (P : Program) (cf : Cfg) (tm : Tms) (hp : SH) (G : E) (o : Oper) : Option (SV × SH × Ow) :=
 match o.op with
 | .binOp op t x y _ => (match growNil P tm hp G op t x y with | some b => some (.c (.bool (.bc b)), hp, ⟨[], none⟩) | none => none)
 | .call { callee := .builtin .append, args, argTypes } => (match args.toList, argTypes.toList with
  | [x, y], [t, t'] => if t = t' then (match opd tm G x, opd tm G y with
   | some u, some v => (match xappend P hp t u v with
    | some hp' => some (.c (.ow hp.length), hp', ⟨[], none⟩)
    | none => (match xapp P hp t u v with | some hp' => some (.c (.ow hp.length), hp', ⟨[], none⟩) | none => none))
   | _, _ => none) else none
  | _, _ => none)
 | .call { callee := .builtin .copy, args, argTypes } => (match args.toList, argTypes.toList with
  | [x, y], [t, t'] => if t = t' then (match opd tm G x, opd tm G y with
   | some u, some v => (match xcopy P hp t u v with | some (s, hp') => some (.c s, hp', ⟨[], none⟩) | none => none)
   | _, _ => none) else none
  | _, _ => none)
 | .makeSlice t x y => (match opd tm G x, opd tm G y with
  | some u, some v => (match xmake P hp t u v with | some (hp', obs) => some (.c (.ow hp.length), hp', ⟨obs, none⟩) | none => none)
  | _, _ => none)
 | .buildSlice t 0 ps => if ps.isEmpty then (match xempty P hp t with | some hp' => some (.c (.ow hp.length), hp', ⟨[], none⟩) | none => none) else none
 | .call { callee := .value f, args, .. } => xcall P cf tm hp G f args.toList
 | _ => none
section
variable {P : Program} {ρ : Env} {B : Nat} {w0 w : World} {ls : Ls} {hp : SH} {tm : Tms} {a : Act} {G : E} {cf : Cfg}
theorem opX0_ok {o : Oper} {v : SV} {hp' : SH} {ow : Ow} (h : opX0 P cf tm hp G o = some (v, hp', ow)) (hc : CfgOk P ρ cf) (hw : ow.Ok ρ) (hr : RTm ρ ls tm a) (hG : evB ρ G = true) (hh : HOk ρ B w0 ls hp w) :
 upR P (fun z w' => ∃ ls', Ext ls ls' ∧ HOk ρ B w0 ls' hp' w' ∧ RV ρ ls' v z) ((execOp a.eval o).run P w) := by
 obtain ⟨dst, op, ty, pos, after, guard⟩ := o
 unfold opX0 at h
 simp only at h
 split at h
 ·rename_i bop t x y yt
  split at h
  ·rename_i b hgn
   cases h
   unfold growNil at hgn
   split at hgn
   ·rename_i l hx hy ht
    obtain ⟨e, he⟩ := isSlT_ok ht
    split at hgn
    ·rename_i wr1 ty1 sz1 s1 r1 hl
     obtain ⟨_, hsz, A, n, c, vs, g1, g2, g3, g4⟩ := hh.ent l _ hl
     obtain ⟨x1, _⟩ := opd_ok hx hr hG
     rw [g1] at x1
     have hxv : a.eval x = .slice A n c := (Option.some.inj x1).symm
     have hyv : a.eval y = .slice none 0 0 := opd_ok hy hr hG
     have hn0 : n ≠ 0 := fun h0 => by
      have := g3.len
      rw [g2, h0, Nat.zero_mul] at this
      simp at this
     have hA : ∃ a0, A = some a0 := by
      rcases g4.2 with ⟨e1, e2⟩ | ⟨g, cap, cur, e1, _⟩
      ·exact (hn0 (by omega)).elim
      ·injection e1 with e1; exact ⟨_, e1⟩
     obtain ⟨a0, rfl⟩ := hA
     have heq := run_equal_slice_nil (P := P) w t e (some a0) n c he
     have hneq := run_neq_slice_nil (P := P) w t e (some a0) n c he
     have heql : (binOp .eql t (.slice (some a0) n c) (.slice none 0 0)).run P w = .ok (.bool false) w := by
      simp only [binOp]
      simp [heq]
     have hg : eqGuard bop t x y (.slice (some a0) n c) (.slice none 0 0) = pure () := eqGuard_at_slice _ _ _ _ _ _ _ _
     split at hgn
     ·cases hgn
      have hrun : (execOp a.eval ⟨dst, .binOp .eql t x y yt, ty, pos, after, guard⟩).run P w = .ok (.value (.bool false)) w := by simp [execOp, hxv, hyv, hg, heql]
      rw [hrun]
      exact ⟨ls, Ext.refl _, hh, rfl⟩
     ·cases hgn
      have hrun : (execOp a.eval ⟨dst, .binOp .neq t x y yt, ty, pos, after, guard⟩).run P w = .ok (.value (.bool true)) w := by simp [execOp, hxv, hyv, hg, hneq]
      rw [hrun]
      exact ⟨ls, Ext.refl _, hh, rfl⟩
     ·cases hgn
    ·cases hgn
   ·cases hgn
  ·cases h
 ·rename_i args argTypes
  split at h
  ·rename_i x y t t' hargs hts
   split at h
   ·rename_i he
    subst he
    split at h
    ·rename_i u v' hu hv
     have ea : args = #[x, y] := by rw [show args = args.toList.toArray by simp, hargs]
     have et : argTypes = #[t, t] := by rw [show argTypes = argTypes.toList.toArray by simp, hts]
     have fin : ∀ {hp1 : SH}, (∃ z w', (Builtin.append_ #[t, t] ty #[a.eval x, a.eval y]).run P w = .ok z w' ∧ HOk ρ B w0 (ls ++ [z]) hp1 w' ∧ ∃ A n c, z = .slice A n c) →
      upR P (fun z w' => ∃ ls', Ext ls ls' ∧ HOk ρ B w0 ls' hp1 w' ∧ RV ρ ls' (.c (.ow hp.length)) z) ((execOp a.eval ⟨dst, .call { callee := .builtin .append, args, argTypes }, ty, pos, after, guard⟩).run P w) := fun {hp1} hq => by
      obtain ⟨z, w', r1, r2, A, n, c, rfl⟩ := hq
      have hrun : (execOp a.eval ⟨dst, .call { callee := .builtin .append, args, argTypes }, ty, pos, after, guard⟩).run P w = .ok (.value (.slice A n c)) w' := by
       simp only [execOp, resolve, invoke, builtin, ea, et, Sem.run_bind, Sem.run_pure, Result.andThen_ok, List.map_toArray, List.map_cons, List.map_nil, r1]
      rw [hrun]
      exact ⟨_, Ext.snoc ls _, r2, by rw [← hh.len]; simp, A, n, c, rfl⟩
     split at h
     ·rename_i hp1 hx
      cases h
      exact fin (xappend_ok (ty := ty) hx hh (opd_ok hu hr hG) (opd_ok hv hr hG))
     ·split at h
      ·rename_i hp1 hx
       cases h
       exact fin (xapp_ok (ty := ty) hx hh (opd_ok hu hr hG) (opd_ok hv hr hG))
      ·cases h
    ·cases h
   ·cases h
  ·cases h
 ·rename_i args argTypes
  split at h
  ·rename_i x y t t' hargs hts
   split at h
   ·rename_i he
    subst he
    split at h
    ·rename_i u v' hu hv
     split at h
     ·rename_i s hp1 hx
      cases h
      have ea : args = #[x, y] := by rw [show args = args.toList.toArray by simp, hargs]
      have et : argTypes = #[t, t] := by rw [show argTypes = argTypes.toList.toArray by simp, hts]
      obtain ⟨z, w', r1, r2, r3⟩ := xcopy_ok (ty' := ty) hx hh (opd_ok hu hr hG) (opd_ok hv hr hG)
      have hrun : (execOp a.eval ⟨dst, .call { callee := .builtin .copy, args, argTypes }, ty, pos, after, guard⟩).run P w = .ok (.value z) w' := by
       simp only [execOp, resolve, invoke, builtin, ea, et, Sem.run_bind, Sem.run_pure, Result.andThen_ok, List.map_toArray, List.map_cons, List.map_nil, r1]
      rw [hrun]
      exact ⟨ls, Ext.refl _, r2, r3⟩
     ·cases h
    ·cases h
   ·cases h
  ·cases h
 ·rename_i t x y
  split at h
  ·rename_i u v' hu hv
   split at h
   ·rename_i hp1 obs hx
    cases h
    obtain ⟨z, w', r1, r2, A, n, c, rfl⟩ := xmake_ok hx hh hw.1 (opd_ok hu hr hG) (opd_ok hv hr hG)
    have hrun : (execOp a.eval ⟨dst, .makeSlice t x y, ty, pos, after, guard⟩).run P w = .ok (.value (.slice A n c)) w' := by
     simp only [execOp, Sem.run_bind, Sem.run_pure, Result.andThen_ok, r1]
    rw [hrun]
    exact ⟨_, Ext.snoc ls _, r2, by rw [← hh.len]; simp, A, n, c, rfl⟩
   ·cases h
  ·cases h
 ·rename_i t ps
  split at h
  ·rename_i hps
   split at h
   ·rename_i hp1 hx
    cases h
    have hps : ps = #[] := by simpa using hps
    subst hps
    obtain ⟨z, w', r1, r2, A, n, c, rfl⟩ := xempty_ok hx hh
    have hrun : (execOp a.eval ⟨dst, .buildSlice t 0 #[], ty, pos, after, guard⟩).run P w = .ok (.value (.slice A n c)) w' := by
     simp only [execOp, Sem.run_bind, Sem.run_pure, Result.andThen_ok, List.map_toArray, List.map_nil, r1]
    rw [hrun]
    exact ⟨_, Ext.snoc ls _, r2, by rw [← hh.len]; simp, A, n, c, rfl⟩
   ·cases h
  ·cases h
 ·rename_i f args at_
  obtain ⟨f', fn, h1, h2, h3, h4, h5⟩ := xcall_ok (P := P) h hc hw hr hG hh
  have e : args.map a.eval = (args.toList.map a.eval).toArray := by rw [← Array.toList_map]
  have hrun : (execOp a.eval ⟨dst, .call { callee := .value f, args, argTypes := at_ }, ty, pos, after, guard⟩).run P w = .ok (.enter f' (args.toList.map a.eval).toArray) w := by
   simp only [execOp, resolve, h1, Deferred.ofValue, Sem.run_bind, Sem.run_pure, Result.andThen_ok, invoke, e]
   simp [run_callFunc h2 h3 h4]
  rw [hrun]
  exact h5
 ·cases h
end
def opX (P : Program) (cf : Cfg) (tm : Tms) (hp : SH) (G : E) (o : Oper) : Option (SV × SH × Ow) := match opX0 P cf tm hp G o with
 | some r => some r
 | none => opFE P tm hp G o
theorem opX_ok {P : Program} {ρ : Env} {B : Nat} {w0 w : World} {ls : Ls} {hp : SH} {tm : Tms} {a : Act} {G : E} {cf : Cfg} {o : Oper} {v : SV} {hp' : SH} {ow : Ow} (h : opX P cf tm hp G o = some (v, hp', ow)) (hc : CfgOk P ρ cf) (hw : ow.Ok ρ) (hr : RTm ρ ls tm a) (hG : evB ρ G = true) (hh : HOk ρ B w0 ls hp w) :
 upR P (fun z w' => ∃ ls', Ext ls ls' ∧ HOk ρ B w0 ls' hp' w' ∧ RV ρ ls' v z) ((execOp a.eval o).run P w) := by
 unfold opX at h
 split at h
 ·rename_i r hr'
  cases h
  exact opX0_ok hr' hc hw hr hG hh
 ·exact opFE_ok h hw hr hG hh
def isFnT (P : Program) (t : TypeId) : Bool := match P.underlying t with | some (.func _ _ _) => true | _ => false
def fnCmp (P : Program) (tm : Tms) (G : E) (op : BinOp) (t : TypeId) (x y : Operand) : Option (E × Bool) :=
 match opd tm G x, opd tm G y, isFnT P t with
 | some (.c (.fn _ _ _)), some (.c (.cst .nilFunc)), true => (match op with | .eql => some (.ic 1, true) | .neq => some (.ic 1, false) | _ => none)
 | _, _, _ => none
section
variable {P : Program} {ρ : Env} {ls : Ls} {tm : Tms} {a : Act} {G : E}
theorem run_equalIn_fn (w : World) (d : Nat) {t : TypeId} {p r : Array TypeId} {v : Bool} {F : Fn} {fs cs : Array Value} (h : P.underlying t = some (.func p r v)) : (Op.equalIn (d + 1) t (.func F fs cs) .nilFunc).run P w = .ok false w := by
 simp [Op.equalIn, run_underlying h]
theorem fnCmp_ok {dst : Option Tmp} {op : BinOp} {t yt ty : TypeId} {x y : Operand} {pos : String} {after : Array Edge} {guard : Option (Nat × Bool)} {n : E} {b : Bool} {w : World} (h : fnCmp P tm G op t x y = some (n, b)) (hr : RTm ρ ls tm a) (hG : evB ρ G = true) :
 (execOp a.eval ⟨dst, .binOp op t x y yt, ty, pos, after, guard⟩).run P w = .ok (.value (.bool (!b))) w := by
 unfold fnCmp at h
 split at h
 ·rename_i f1 a1 c1 hx hy ht
  unfold isFnT at ht
  split at ht
  ·rename_i p r v hu
   obtain ⟨fs, cs, hxv, _, _⟩ := opd_ok hx hr hG
   have hyv : a.eval y = .nilFunc := opd_ok hy hr hG
   have heq : (Op.equal t (.func (.func f1) fs.toArray cs.toArray) .nilFunc).run P w = .ok false w := run_equalIn_fn w 9999 hu
   split at h
   ·cases h
    simp [execOp, hxv, hyv, eqGuard_at_func, binOp, heq]
   ·cases h
    simp [execOp, hxv, hyv, eqGuard_at_func, binOp, heq]
   ·cases h
  ·cases ht
 ·cases h
end
def nilCmp (P : Program) (tm : Tms) (hp : SH) (G : E) (o : Oper) : Option (E × Bool) :=
 match o.op with
 | .binOp op t x y _ => (match opd tm G x, opd tm G y, isSlT P t with
  | some (.c (.ow l)), some (.c (.cst (.slice none 0 0))), true => (match hp[l]? with
   | some ⟨_, _, .row _ _ n _⟩ => (match op with | .eql => some (n, true) | .neq => some (n, false) | _ => none)
   | _ => none)
  | _, _, _ => fnCmp P tm G op t x y)
 | _ => none
section
variable {P : Program} {ρ : Env} {B : Nat} {w0 w : World} {ls : Ls} {hp : SH} {tm : Tms} {a : Act} {G : E} {cf : Cfg}
theorem nilCmp_ok {o : Oper} {n : E} {b : Bool} (h : nilCmp P tm hp G o = some (n, b)) (hr : RTm ρ ls tm a) (hG : evB ρ G = true) (hh : HOk ρ B w0 ls hp w) :
 ((execOp a.eval o).run P w = .ok (.value (.bool b)) w ∧ evI ρ n = 0) ∨ (execOp a.eval o).run P w = .ok (.value (.bool (!b))) w := by
 obtain ⟨dst, op, ty, pos, after, guard⟩ := o
 unfold nilCmp at h
 simp only at h
 split at h
 ·rename_i bop t x y yt
  split at h
  ·rename_i l hx hy ht
   obtain ⟨e, he⟩ := isSlT_ok ht
   split at h
   ·rename_i b' ty' sh R n' hi hl
    obtain ⟨A, c, g1, g2, g3, g4⟩ := row_len rfl (hh.ent l _ hl)
    obtain ⟨x1, _⟩ := opd_ok hx hr hG
    rw [g1] at x1
    have hxv : a.eval x = .slice A (evI ρ n').toNat c := (Option.some.inj x1).symm
    have hyv : a.eval y = .slice none 0 0 := opd_ok hy hr hG
    have heq := run_equal_slice_nil (P := P) w t e A (evI ρ n').toNat c he
    have hneq := run_neq_slice_nil (P := P) w t e A (evI ρ n').toNat c he
    have heql : (binOp .eql t (.slice A (evI ρ n').toNat c) (.slice none 0 0)).run P w = .ok (.bool A.isNone) w := by
     simp only [binOp]
     simp [heq]
    have hz : A = none → evI ρ n' = 0 := fun hA => by
     subst hA
     by_cases h0 : 0 < (evI ρ n').toNat
     ·obtain ⟨a0, c0, q⟩ := row_addr rfl (hh.ent l _ hl) h0
      rw [g1] at q
      cases q
     ·omega
    have hg : eqGuard bop t x y (.slice A (evI ρ n').toNat c) (.slice none 0 0) = pure () := eqGuard_at_slice _ _ _ _ _ _ _ _
    split at h
    ·cases h
     cases A with
     | none => exact .inl ⟨by simp [execOp, hxv, hyv, hg, heql], hz rfl⟩
     | some a0 => exact .inr (by simp [execOp, hxv, hyv, hg, heql])
    ·cases h
     cases A with
     | none => exact .inl ⟨by simp [execOp, hxv, hyv, hg, hneq], hz rfl⟩
     | some a0 => exact .inr (by simp [execOp, hxv, hyv, hg, hneq])
    ·cases h
   ·cases h
  ·exact .inr (fnCmp_ok h hr hG)
 ·cases h
end
end Vc
end Go.Proofs.YtelbilnnmmbmdaaDoor
namespace Go.Proofs.YtelbilnnmmbmdaaDoor
namespace Vc
open Go Go.RowKit
set_option linter.unusedVariables false
inductive Fr where
 | seq (c : Code)
 | blk (id : Nat)
 | lp (c : Code) (n : Nat)
 | scp
 | inv (L : LSpec) (h : St) (mv : List (Nat × Nat)) (A : List E) (df : List Nat)
 | act (f : FuncId) (fn : Func) (tm : Tms) (df : List Nat) (rd : Option Nat) (all : Bool × Array Oper) (rest : List Oper) (dst : Option Tmp)
 | rng (f : FuncId) (fn : Func) (l : Nat) (ps : Array Tmp) (asg body : Code) (tm : Tms) (df : List Nat) (rd : Option Nat)
 | asg (l : Nat) (body : Code)
 | rnd (l : Nat) (tm : Tms) (df : List Nat) (rd : Option Nat) (all : Bool × Array Oper) (rest : List Oper) (dst : Option Tmp)
 | pc (f : FuncId) (fn : Func) (tm : Tms) (df : List Nat) (rd : Option Nat) (all : Array Oper) (k c n : Nat) (its : List It)
 | pm (f : FuncId) (fn : Func) (tm : Tms) (df : List Nat) (rd : Option Nat) (all : Array Oper) (k n c : Nat) (ps : List Nat) (its : List It) (done : List (Nat × Tm))
inductive Ctl where
 | code (c : Code)
 | ops (all : Bool × Array Oper) (rest : List Oper)
 | nrm
 | ex (id : Nat)
 | ret
def owsF : List (E × Ow) → Fm → Fm
 | [], f => f
 | (G, o) :: r, f => owF G o (owsF r f)
def runQ (P : Program) (cf : Cfg) (sm : Sm) (hp : SH) (neg : List E) (all : Array Oper) : List Oper → Tms → List Oper × Tms
 | [], tm => ([], tm)
 | o :: r, tm => match guardOf tm all neg o.guard with
  | some none => runQ P cf sm hp neg all r (putT tm o.dst undT)
  | some (some G) => (match opQ2 P cf sm tm hp G o with
   | some (v, ow) => if ow.none? then runQ P cf sm hp neg all r (putT tm o.dst ⟨G, nz neg v⟩) else (o :: r, tm)
   | none => (o :: r, tm))
  | none => (o :: r, tm)
def setAll : Tr → Nat → List SV → Tr
 | t, _, [] => t
 | t, i, v :: r => setAll (t.set i ⟨.bc true, v⟩) (i + 1) r
def initT (n : Nat) (vs : List SV) : Tms := ⟨vs.length + (n - vs.length), setAll (Tr.full undT 11) 0 vs⟩
def runS (P : Program) (cf : Cfg) (sm : Sm) (all : Array Oper) (l : List Oper) (s : St) : List Oper × St :=
 match runQ P cf sm s.hp s.neg all l s.tm with
 | (r, tm) => (r, ⟨tm, s.hp, s.neg⟩)
def pvS (p : PV) : SV := .c (.ptr p.1 p.2)
def callOf (cf : Cfg) (tm : Tms) (G : E) (o : Oper) : Option (FuncId × Func × Code × List SV) :=
 match o.op with
 | .call { callee := .value f, args, .. } => (match opd tm G f, opds tm G args.toList with
  | some (.c (.fn f first cap)), some vs => (match lookFn cf.fns f with
   | some fn => (match fn.body with | some c => some (f, fn, c, first.map pvS ++ vs ++ cap.map pvS) | none => none)
   | none => none)
  | _, _ => none)
 | _ => none
def callAt (cf : Cfg) (neg : List E) (ops : Array Oper) (tm : Tms) (c n : Nat) (its : List It) : Option (FuncId × Func × Code × List SV) :=
 match ops[c]? with
 | some o => (match guardOf (seeT ops its o.after.toList (maskT ops n tm)) ops neg o.guard with
  | some (some G) => if isT G then callOf cf (seeT ops its o.after.toList (maskT ops n tm)) G o else none
  | _ => none)
 | none => none
def tryC (P : Program) (cf : Cfg) (sm : Sm) (hp : SH) (neg : List E) (ops : Array Oper) (tm : Tms) (k c : Nat) : Nat → Nat → Option (Nat × List It)
 | 0, _ => none
 | d + 1, n => if chkC ops tm k c n then (match itsC P cf sm hp neg ops tm k c n with
  | some its => some (n, its)
  | none => tryC P cf sm hp neg ops tm k c d (n + 1)) else tryC P cf sm hp neg ops tm k c d (n + 1)
def cpieceAt (P : Program) (cf : Cfg) (sm : Sm) (hp : SH) (neg : List E) (ops : Array Oper) (tm : Tms) (k : Nat) : Option (Nat × Nat × List It × FuncId × Func × Code × List SV) :=
 match (regK P cf sm hp neg ops tm k (headN [] (ops.toList.drop k) + k)).its.length with
 | c => (match tryC P cf sm hp neg ops tm k c (ops.size - c) (c + 1) with
  | some (n, its) => (match callAt cf neg ops tm c n its with
   | some r => some (c, n, its, r)
   | none => none)
  | none => none)
def sameIts : List It → List It → Bool
 | [], [] => true
 | .val t :: r, .val u :: s => sameT t u && sameIts r s
 | _, _ => false
theorem sameIts_ok : ∀ {a b : List It}, sameIts a b = true → a = b
 | [], [], _ => rfl
 | .val t :: r, .val u :: s, h => by
  simp only [sameIts, Bool.and_eq_true] at h
  rw [sameT_ok h.1, sameIts_ok h.2]
 | [], _ :: _, h => by cases h
 | .val _ :: _, [], h => by cases h
 | .val _ :: _, .new _ _ _ :: _, h => by cases h
 | .val _ :: _, .res _ _ :: _, h => by cases h
 | .val _ :: _, .put _ _ :: _, h => by cases h
 | .put _ _ :: _, _, h => by cases h
 | .new _ _ _ :: _, _, h => by cases h
 | .res _ _ :: _, _, h => by cases h
def effO (P : Program) (cf : Cfg) (tm : Tms) (hp : SH) (G : E) (o : Oper) : Option (SV × SH × Ow) := match opEff P tm hp G o with
 | some (some v, hp') => some (v, hp', ⟨[], none⟩)
 | some (none, hp') => some (.c .und, hp', ⟨[], none⟩)
 | none => opX P cf tm hp G o
def effAt (P : Program) (cf : Cfg) (hp : SH) (neg : List E) (ops : Array Oper) (tm : Tms) (c n : Nat) (its : List It) : Option (SV × SH × Ow) :=
 match ops[c]? with
 | some o => (match guardOf (seeT ops its o.after.toList (maskT ops n tm)) ops neg o.guard with
  | some (some G) => if isT G then effO P cf (seeT ops its o.after.toList (maskT ops n tm)) hp G o else none
  | _ => none)
 | none => none
def epieceAt (P : Program) (cf : Cfg) (sm : Sm) (hp : SH) (neg : List E) (ops : Array Oper) (tm : Tms) (k : Nat) : Option (Nat × Nat × List It × SV × SH × Ow) :=
 match (regK P cf sm hp neg ops tm k (headN [] (ops.toList.drop k) + k)).its.length with
 | c => (match tryC P cf sm hp neg ops tm k c (ops.size - c) (c + 1) with
  | some (n, its) => (match effAt P cf hp neg ops tm c n its with
   | some (v, hp', ow) => (match itsC P cf sm hp' neg ops tm k c n with
    | some its' => if sameIts its its' then some (c, n, its, v, hp', ow) else none
    | none => none)
   | none => none)
  | none => none)
def mdepB (ops : Array Oper) (cs pd : List Nat) : Bool := cs.all fun j => match ops[j]? with | some o => o.after.toList.any fun e => Region.binds .any e && pd.any (Nat.beq e.on) | none => false
def posP (P : Program) (cf : Cfg) (sm : Sm) (hp : SH) (neg : List E) (ops : Array Oper) (tmM : Tms) : List Oper → List It → List Nat
 | [], _ => []
 | o :: r, acc => match regL P cf sm hp neg ops tmM [o] acc [] with
  | q => (match q.its[acc.length]? with
   | some (.val t) => posP P cf sm hp neg ops tmM r (acc ++ [.val t])
   | _ => acc.length :: posP P cf sm hp neg ops tmM r (acc ++ [.val unkT]))
def unkL (l : List Nat) : List (Nat × Tm) := l.map fun j => (j, unkT)
def depsT (ops : Array Oper) (its : List It) (c : Nat) : List (Nat × Tm) := match ops[c]? with
 | some o => o.after.toList.filterMap fun e => if Region.binds .any e then (match its[e.on]? with | some (.val t) => some (e.on, t) | _ => none) else none
 | none => []
def runE (P : Program) (cf : Cfg) (sm : Sm) (neg : List E) (ops : Array Oper) (tm : Tms) (k n : Nat) : List Nat → List (Nat × Tm) → SH → Option (List It × SH × List (E × Ow))
 | [], done, hp => (match itsP P cf sm hp neg ops (maskT ops n tm) done ((ops.toList.take n).drop k) (knownL ops tm k) [] with
  | some (its, os) => some (its, hp, os)
  | none => none)
 | c :: r, done, hp => (match itsP P cf sm hp neg ops (maskT ops n tm) (done ++ unkL (c :: r)) ((ops.toList.take n).drop k) (knownL ops tm k) [] with
  | some (its, os) => (match effAt P cf hp neg ops tm c n its with
   | some (v, hp', ow) => (match itsP P cf sm hp' neg ops (maskT ops n tm) (((c, ⟨.bc true, v⟩) :: (depsT ops its c ++ done)) ++ unkL r) ((ops.toList.take n).drop k) (knownL ops tm k) [] with
    | some (its', _) => if sameIts (its.set c (.val ⟨.bc true, v⟩)) its' && mdepB ops r (c :: r) && !(r.any (Nat.beq c)) then (match runE P cf sm neg ops tm k n r ((c, ⟨.bc true, v⟩) :: (depsT ops its c ++ done)) hp' with
     | some (itsF, hpF, ows) => some (itsF, hpF, os ++ ((.bc true, ow) :: ows))
     | none => none) else none
    | none => none)
   | none => none)
  | none => none)
def tryM (P : Program) (cf : Cfg) (sm : Sm) (hp : SH) (neg : List E) (ops : Array Oper) (tm : Tms) (k c : Nat) : Nat → Nat → Option (Nat × List It × SH × List (E × Ow))
 | 0, _ => none
 | d + 1, n => if chkC ops tm k c n then (match posP P cf sm hp neg ops (maskT ops n tm) ((ops.toList.take n).drop k) (knownL ops tm k) with
  | ps => if ps.all (fun c => Nat.ble k c && Nat.blt c n) then (match runE P cf sm neg ops tm k n ps [] hp with
   | some r => some (n, r)
   | none => tryM P cf sm hp neg ops tm k c d (n + 1)) else tryM P cf sm hp neg ops tm k c d (n + 1)) else tryM P cf sm hp neg ops tm k c d (n + 1)
def mpieceAt (P : Program) (cf : Cfg) (sm : Sm) (hp : SH) (neg : List E) (ops : Array Oper) (tm : Tms) (k : Nat) : Option (Nat × List It × SH × List (E × Ow)) :=
 match (regK P cf sm hp neg ops tm k (headN [] (ops.toList.drop k) + k)).its.length with
 | c => tryM P cf sm hp neg ops tm k c (ops.size - c) (c + 1)
def isCallV (ops : Array Oper) (c : Nat) : Bool := match ops[c]? with
 | some o => (match o.op with | .call { callee := .value _, .. } => true | _ => false)
 | none => false
def tryP (P : Program) (cf : Cfg) (sm : Sm) (hp : SH) (neg : List E) (ops : Array Oper) (tm : Tms) (k c : Nat) : Nat → Nat → Option (Nat × List Nat)
 | 0, _ => none
 | d + 1, n => if chkC ops tm k c n then (match posP P cf sm hp neg ops (maskT ops n tm) ((ops.toList.take n).drop k) (knownL ops tm k) with
  | ps => if ps.all (fun c => Nat.ble k c && Nat.blt c n) && (ps.any (isCallV ops) || !ps.isEmpty) then some (n, ps) else none) else tryP P cf sm hp neg ops tm k c d (n + 1)
def planAt (P : Program) (cf : Cfg) (sm : Sm) (hp : SH) (neg : List E) (ops : Array Oper) (tm : Tms) (k : Nat) : Option (Nat × List Nat) :=
 match (regK P cf sm hp neg ops tm k (headN [] (ops.toList.drop k) + k)).its.length with
 | c => tryP P cf sm hp neg ops tm k c (ops.size - c) (c + 1)
def yldOf (tm : Tms) (G : E) (o : Oper) : Option (Nat × List SV) :=
 match o.op with
 | .call { callee := .value f, args, .. } => (match opd tm G f, opds tm G args.toList with
  | some (.c (.yld l)), some vs => some (l, vs)
  | _, _ => none)
 | _ => none
def setPs : Tms → List Tmp → List SV → Option Tms
 | tm, [], [] => some tm
 | tm, p :: ps, v :: vs => setPs (putT tm (some p) ⟨.bc true, v⟩) ps vs
 | _, _, _ => none
def findR (l : Nat) : List Fr → Option (Array Tmp × Code × Code × Tms)
 | [] => none
 | .rng _ _ l' ps asg body tm _ _ :: K => if Nat.beq l' l then some (ps, asg, body, tm) else findR l K
 | _ :: K => findR l K
def keyIds (f0 : FuncId) : List Fr → Option Nat → List Nat
 | [], _ => [f0]
 | .act f .. :: K, none => f :: keyIds f0 K none
 | .pc f .. :: K, none => f :: keyIds f0 K none
 | .pm f .. :: K, none => f :: keyIds f0 K none
 | .rng f _ l .. :: K, none => f :: keyIds f0 K none
 | .rng _ _ l .. :: K, some l' => if Nat.beq l l' then keyIds f0 K none else keyIds f0 K (some l')
 | .rnd l .. :: K, none => keyIds f0 K (some l)
 | _ :: K, s => keyIds f0 K s
def keyBlk : List Fr → Nat
 | .blk id :: _ => id
 | .seq _ :: K => keyBlk K
 | .scp :: K => keyBlk K
 | _ => 0
def keyLp : List Fr → List Nat
 | [] => []
 | .lp _ n :: K => (200 - n) :: keyLp K
 | _ :: K => keyLp K
def preB : List Nat → List Nat → Bool
 | [], _ => true
 | a :: r, b :: s => Nat.beq a b && preB r s
 | _, _ => false
def findL : List LSpec → List Nat → Option LSpec
 | [], _ => none
 | L :: r, k => if preB L.path k then some L else findL r k
def findH (c : Code) (s : St) : List LSpec → List Nat → Option LSpec
 | [], _ => none
 | L :: r, k => if preB L.path k && (headOf L c s).isSome then some L else findH c s r k
def sameK : List (Nat × Nat) → List (Nat × Nat) → Bool
 | [], [] => true
 | a :: r, b :: s => Nat.beq a.1 b.1 && sameK r s
 | _, _ => false
def sameN : List Nat → List Nat → Bool
 | [], [] => true
 | a :: r, b :: s => Nat.beq a b && sameN r s
 | _, _ => false
def rdP (p : Nat → Bool) : Option Nat → Bool
 | none => true
 | some l => p l
def avK (n : Nat) (mv : List (Nat × Nat)) (m : Nat) : List Fr → Bool
 | [] => true
 | .inv L h mv0 A df0 :: K => Nat.ble h.hp.length n && (mv.all fun x => Nat.ble h.hp.length x.1 || mv0.any fun y => Nat.beq y.1 x.1) && Nat.ble (L.m + L.k) m && A.all (E.blw m) && df0.all (unm n mv) && avK n mv m K
 | .act _ _ tm df rd _ _ _ :: K => tm.av (unm n mv) m && df.all (unm n mv) && rdP (unm n mv) rd && avK n mv m K
 | .rng _ _ l _ _ _ tm df rd :: K => unm n mv l && tm.av (unm n mv) m && df.all (unm n mv) && rdP (unm n mv) rd && avK n mv m K
 | .asg l _ :: K => unm n mv l && avK n mv m K
 | .rnd l tm df rd _ _ _ :: K => unm n mv l && tm.av (unm n mv) m && df.all (unm n mv) && rdP (unm n mv) rd && avK n mv m K
 | .pc _ _ tm df rd _ _ _ _ its :: K => tm.av (unm n mv) m && its.all (It.av (unm n mv) m) && df.all (unm n mv) && rdP (unm n mv) rd && avK n mv m K
 | .pm _ _ tm df rd _ _ _ _ _ its _ :: K => tm.av (unm n mv) m && its.all (It.av (unm n mv) m) && df.all (unm n mv) && rdP (unm n mv) rd && avK n mv m K
 | .seq _ :: K => avK n mv m K
 | .blk _ :: K => avK n mv m K
 | .lp _ _ :: K => avK n mv m K
 | .scp :: K => avK n mv m K
def Tms.weak (p : Nat → Bool) (m : Nat) (tm : Tms) : Tms := ⟨tm.n, tm.t.map fun t => if t.av p m then t else unkT⟩
def weakFr (p : Nat → Bool) (m : Nat) : Fr → Fr
 | .act f fn tm df rd all rest dst => .act f fn (tm.weak p m) df rd all rest dst
 | .rng f fn l ps asg body tm df rd => .rng f fn l ps asg body (tm.weak p m) df rd
 | .rnd l tm df rd all rest dst => .rnd l (tm.weak p m) df rd all rest dst
 | x => x
def weakK (L : LSpec) (d : Hd) (K : List Fr) : List Fr := if avK d.h.hp.length d.mv L.m K then K else K.map (weakFr (unm d.h.hp.length d.mv) L.m)
def allE (p : Nat → Bool) : Nat → Bool := fun _ => true
def isRow (h : SH) (x : Nat × Nat) : Bool := match h[x.1]? with | some ⟨_, _, .lrec ..⟩ => false | some _ => true | none => false
def headOk (L : LSpec) (d : Hd) (neg : List E) (K : List Fr) (df : List Nat) (rd : Option Nat) : Bool :=
 Nat.beq d.θ.length L.k && d.A.all (E.blw L.m) && neg.all (E.blw L.m) && d.mv.all (isRow d.h.hp) &&
 d.h.tm.av (fun _ => true) (L.m + L.k) && d.h.hp.all (HE.av (fun _ => true) (L.m + L.k)) && avK d.h.hp.length d.mv L.m K && df.all (unm d.h.hp.length d.mv) && rdP (unm d.h.hp.length d.mv) rd
def rngF (h : St) : List Pth → Fm → Fm
 | [], f => f
 | x :: r, f => (match x.get h.tm h.hp with
  | some (.int _ e lo hi) => .imp (.and (.le (.ic lo) e) (.le e (.ic hi))) (rngF h r f)
  | some (.ow l) => (match h.hp[l]? with
   | some ⟨_, _, .row sh R n hi⟩ => .rowH sh R n hi (rngF h r f)
   | _ => rngF h r f)
  | _ => rngF h r f)
def LSpec.ps (L : LSpec) : List Pth := L.vars.map Prod.fst ++ L.rows.map Prod.fst
def argL (L : LSpec) (A : List E) : E := argE (A ++ varL L.m L.k)
def backF (L : LSpec) (h : St) (mv : List (Nat × Nat)) (A : List E) (s : St) : Option Fm :=
 match thVars (s.tm, s.hp) L.vars, thAll (h.tm, h.hp) (s.tm, s.hp) L with
 | some t, some (u, mv') => if sameK mv mv' && Nat.beq (t ++ u).length L.k then (match inst L.m mv' (t ++ u) h s with
  | some obs => some (obsF (.bc true) obs (.and (.pre L.pre (argE (A ++ (t ++ u)))) (.and (.tst (.lt (.app L.meas (argE (A ++ (t ++ u)))) (.app L.meas (argL L A)))) (.tst (.lt (.ic 0) (.app L.meas (argL L A)))))))
  | none => none) else none
 | _, _ => none
def takeMk : SH → List Nat → Option SH
 | hp, [] => some hp
 | hp, d :: r => (match hp[d]? with
  | some ⟨b, ty, .mark⟩ => takeMk (hp.set d ⟨b, ty, .dead⟩) r
  | _ => none)
def retV (P : Program) (cf : Cfg) (s : St) (df : List Nat) (fn : Func) : Option (SV × SH) :=
 match takeMk s.hp df with
 | some hp => (match resOf P cf.globs s.tm hp fn.results.toList with | some v => some (v, hp) | none => none)
 | none => none
def begin0 (fn : Func) (vs : List SV) : St := ⟨initT fn.ntmps vs, [], []⟩
def begin1 (fn : Func) (vs : List SV) (hp : SH) : St := ⟨initT fn.ntmps vs, hp, []⟩
def lrecOf (hp : SH) (l : Nat) : Option (Bool × TypeId × LoopState × Option (Option Nat)) := match hp[l]? with | some ⟨b, ty, .lrec st pd⟩ => some (b, ty, st, pd) | _ => none
def isReady : LoopState × Option (Option Nat) → Bool
 | (.ready, none) => true
 | _ => false
def isBusy : LoopState → Bool
 | .busy => true
 | _ => false
abbrev Rec := FuncId → Func → Ctl → List Fr → St → List Nat → Option Nat → Fm
def synR : E → Option (Int × Int)
 | .mod _ (.ic m) => if 0 < m then some (0, m - 1) else none
 | _ => none
def smallR (tm : Tms) (e : E) : Option (E × Int × Nat) := match (match synR e with | some r => some r | none => rngT tm e tm.n) with
 | some (lo, hi) => if decide (lo ≤ hi) && decide (hi ≤ lo + 8) then some (e, lo, (hi - lo + 1).toNat) else none
 | none => none
def casesI (g : E → Fm) (e : E) : Int → Nat → Fm
 | _, 0 => .tru
 | lo, n + 1 => .and (.imp (.eq e (.ic lo)) (g (.eq e (.ic lo)))) (casesI g e (lo + 1) n)
def splitT (cf : Cfg) (tm : Tms) (key : List Nat) : Option (E × Int × Nat) := match cf.spl.find? fun x => sameN x.1 key with
 | some (_, d) => (match tm.get d with
  | some ⟨g, .c (.int _ e _ _)⟩ => (match constOf e with | none => if isT g then smallR tm e else none | some _ => none)
  | _ => none)
 | none => none
def stepCode (P : Program) (cf : Cfg) (sm : Sm) (rec : Rec) (f0 : FuncId) (fn0 : Func) (c : Code) (K : List Fr) (s : St) (df : List Nat) (rd : Option Nat) : Fm :=
 match c with
  | .skip => rec f0 fn0 .nrm K s df rd
  | .label _ => rec f0 fn0 .nrm K s df rd
  | .seq x y => rec f0 fn0 (.code x) (.seq y :: K) s df rd
  | .block id c => (match splitT cf s.tm (id :: keyIds f0 K none) with
   | some (e, lo, n) => casesI (fun g => rec f0 fn0 (.code c) (.blk id :: K) (assumeN g s) df rd) e lo n
   | none => rec f0 fn0 (.code c) (.blk id :: K) s df rd)
  | .loop c => (match findL cf.loops (keyBlk K :: (keyIds f0 K none ++ keyLp K)) with
   | none => rec f0 fn0 (.code c) (.lp c 200 :: K) s df rd
   | some _ => (match findH c s cf.loops (keyBlk K :: (keyIds f0 K none ++ keyLp K)) with
   | none => .fls
   | some L => (match headOf L c s with
    | none => .fls
    | some d => (match inst L.m d.mv d.θ d.h d.s1 with
     | none => .fls
     | some obs => if headOk L d d.h.neg (weakK L d K) df rd then obsF (.bc true) obs (.and (.pre L.pre (argE (d.A ++ d.θ))) (allF L.m L.k (rngF d.h L.ps (.impP L.pre (argL L d.A) (rec f0 fn0 (.code c) (.inv L d.h d.mv d.A df :: weakK L d K) d.h df rd))))) else .fls))))
  | .scope c => rec f0 fn0 (.code c) (.scp :: K) s df rd
  | .exit id => rec f0 fn0 (.ex id) K s df rd
  | .ret => rec f0 fn0 .ret K s df rd
  | .cond c x y => (match opd s.tm (.bc true) c with
   | some (.c (.bool e)) =>
    if isT e then rec f0 fn0 (.code x) K s df rd else if isF e then rec f0 fn0 (.code y) K s df rd else
    (match line P cf s.hp x s.tm, line P cf s.hp y s.tm with
      | some tx, some ty => rec f0 fn0 .nrm K ⟨mergeL e tx ty, s.hp, s.neg⟩ df rd
      | _, _ => .and (.imp e (rec f0 fn0 (.code x) K (assumeN e s) df rd)) (.imp (eNot e) (rec f0 fn0 (.code y) K (assumeN (eNot e) s) df rd)))
   | _ => .fls)
  | .region _ ops false => rec f0 fn0 (.ops (false, ops) ops.toList) K s df rd
  | .region _ ops true => rec f0 fn0 (.ops (true, ops) ops.toList) K s df rd
  | .rangeFunc g ps asg body => (match opd s.tm (.bc true) g with
   | some (.c (.fn f [] cap)) => (match lookFn cf.fns f with
    | some fn => (match fn.body with
     | some c => (match rd with
      | none => rec f0 fn0 (.code c) (.rng f fn (s.hp.length + 1) ps asg body s.tm (s.hp.length :: df) none :: K) ⟨initT fn.ntmps ([.c (.yld (s.hp.length + 1))] ++ cap.map pvS), s.hp ++ [⟨true, 0, .mark⟩] ++ [⟨true, 0, .lrec .ready none⟩], s.neg⟩ [] none
      | some l0 => (match lrecOf s.hp l0 with
       | some _ => rec f0 fn0 (.code c) (.rng f fn s.hp.length ps asg body s.tm df (some l0) :: K) ⟨initT fn.ntmps ([.c (.yld s.hp.length)] ++ cap.map pvS), s.hp ++ [⟨true, 0, .lrec .ready none⟩], s.neg⟩ [] none
       | none => .fls))
     | none => .fls)
    | none => .fls)
   | _ => .fls)
  | _ => .fls
def nextO (tm : Tms) (hp : SH) (G : E) (o : Oper) : Option (Nat × TypeId × E × E × Int) := match o.op with
 | .next x true => (match opd tm G x with
  | some (.c (.ptr l 0)) => (match hp[l]? with | some ⟨true, ty, .iter a p hi⟩ => some (l, ty, a, p, hi) | _ => none)
  | _ => none)
 | _ => none
def stepOps1 (P : Program) (cf : Cfg) (sm : Sm) (rec : Rec) (f0 : FuncId) (fn0 : Func) (all : Bool × Array Oper) (l : List Oper) (K : List Fr) (s : St) (df : List Nat) (rd : Option Nat) : Fm :=
 match l with
  | [] => rec f0 fn0 .nrm K s df rd
  | o :: rest => if nextB all (o :: rest) then (match guardOf s.tm all.2 s.neg o.guard with
   | none => .fls
   | some none => rec f0 fn0 (.ops all rest) K ⟨putT s.tm o.dst undT, s.hp, s.neg⟩ df rd
   | some (some G) => (match opQ2 P cf sm s.tm s.hp G o with
    | some (v, ow) => owF G ow (rec f0 fn0 (.ops all rest) K ⟨putT s.tm o.dst ⟨G, nz s.neg v⟩, s.hp, s.neg⟩ df rd)
    | none =>
     if isT G then (match opEff P s.tm s.hp G o with
      | some (some v, hp') => rec f0 fn0 (.ops all rest) K ⟨putT s.tm o.dst ⟨.bc true, v⟩, hp', s.neg⟩ df rd
      | some (none, hp') => rec f0 fn0 (.ops all rest) K ⟨putT s.tm o.dst undT, hp', s.neg⟩ df rd
      | none => (match opX P cf s.tm s.hp G o with
       | some (v, hp', ow) => owF G ow (rec f0 fn0 (.ops all rest) K ⟨putT s.tm o.dst ⟨.bc true, v⟩, hp', s.neg⟩ df rd)
       | none => (match nilCmp P s.tm s.hp G o with
       | some (n, b) => .and (.imp (.eq n (.ic 0)) (rec f0 fn0 (.ops all rest) K ⟨putT s.tm o.dst ⟨.bc true, .c (.bool (.bc b))⟩, s.hp, s.neg⟩ df rd)) (rec f0 fn0 (.ops all rest) K ⟨putT s.tm o.dst ⟨.bc true, .c (.bool (.bc (!b)))⟩, s.hp, s.neg⟩ df rd)
       | none => (match nextO s.tm s.hp G o with
       | some (l, ty, x, p, hi) => .and (.imp (.lt p x) (rec f0 fn0 (.ops all rest) K ⟨putT s.tm o.dst ⟨.bc true, nextT x p hi⟩, s.hp.set l ⟨true, ty, .iter x (.add p (.dcw x p)) hi⟩, s.neg⟩ df rd)) (.imp (eNot (.lt p x)) (rec f0 fn0 (.ops all rest) K ⟨putT s.tm o.dst ⟨.bc true, nextF⟩, s.hp, s.neg⟩ df rd))
       | none => (match callOf cf s.tm G o with
        | some (f, fn, c, vs) => rec f0 fn0 (.code c) (.act f fn s.tm df rd all rest o.dst :: K) ⟨initT fn.ntmps vs, s.hp, s.neg⟩ [] none
        | none => (match yldOf s.tm G o with
         | some (l, vs) => (match findR l K, lrecOf s.hp l with
          | some (ps, asg, body, tm), some (_, _, st, pd) => if isReady (st, pd) then (match setPs tm ps.toList vs with
           | some tm' => rec f0 fn0 (.code asg) (.asg l body :: .rnd l s.tm df rd all rest o.dst :: K) ⟨tm', s.hp, s.neg⟩ [] (some l)
           | none => .fls) else .fls
          | _, _ => .fls)
         | none => .fls))))))
     else .and (.imp G (rec f0 fn0 (.ops all (o :: rest)) K (assumeN G s) df rd))
      (.imp (eNot G) (rec f0 fn0 (.ops all rest) K ⟨putT (assumeN (eNot G) s).tm o.dst undT, (assumeN (eNot G) s).hp, G :: (assumeN (eNot G) s).neg⟩ df rd)))) else .fls
def splitG (neg : List E) (ops : Array Oper) (tm : Tms) (k : Nat) (l : List Oper) : Option E := l.findSome? fun o => match o.guard with
 | some (i, _) => if Nat.blt i k then (match guardOf tm ops neg o.guard with
  | some (some G) => if isT G || memE G neg || memE (eNot G) neg then none else some G
  | _ => none) else none
 | none => none
def isArr (P : Program) (t : TypeId) : Bool := match P.underlying t with | some (.array _ _) => true | _ => false
def idxE (P : Program) (tm : Tms) (t : TypeId) (i : Operand) : Option E := if isArr P t then (match opd tm (.bc true) i with
 | some (.c (.int _ e _ _)) => (match constOf e with | none => some e | some _ => none)
 | _ => none) else none
def idxN (tm : Tms) (i : Operand) : Option E := match opd tm (.bc true) i with
 | some (.c (.int _ e _ _)) => (match constOf e with | none => some e | some _ => none)
 | _ => none
def idxOf (P : Program) (tm : Tms) (o : Oper) : Option E := match o.op with
 | .indexAddr t s i => (match opd tm (.bc true) s with | some (.c (.sc ..)) => idxN tm i | _ => idxE P tm t i)
 | .index t _ i => idxE P tm t i
 | _ => none
def splitI (P : Program) (tm : Tms) : List Oper → Option (E × Int × Nat)
 | [] => none
 | o :: _ => (match idxOf P tm o with | some e => smallR tm e | none => none)
def splitD (P : Program) (cf : Cfg) (sm : Sm) (hp : SH) (neg : List E) (ops : Array Oper) (tm : Tms) (k : Nat) (l : List Oper) : Option (E × Int × Nat) :=
 match regK P cf sm hp neg ops tm k (headN [] (ops.toList.drop k) + k) with
 | q => l.findSome? fun o => match idxOf P (seeT ops q.its o.after.toList (maskT ops ops.size tm)) o with
  | some e => smallR tm e
  | none => none
def dropN (c : Nat) (ps : List Nat) : List Nat := ps.filter fun x => !(Nat.beq c x)
def andL : List Fm → Fm
 | [] => .tru
 | [f] => f
 | f :: g :: r => .and f (andL (g :: r))
def lateL (ops : Array Oper) (c : Nat) : Nat → List Bool
 | 0 => []
 | n + 1 => match lateL ops c n with
  | r => r ++ [match ops[n]? with
   | some o => o.after.toList.any fun e => Region.binds .any e && (Nat.beq e.on c || r.getD e.on false)
   | none => false]
def sameX (late : List Bool) (c : Nat) : Nat → List It → List It → Bool
 | _, [], [] => true
 | j, .val t :: r, .val u :: s => ((late.getD j false && !(Nat.beq j c)) || sameT t u) && sameX late c (j + 1) r s
 | _, _, _ => false
theorem sameX_ok {late : List Bool} {c : Nat} : ∀ {a b : List It} {k : Nat}, sameX late c k a b = true → a.length = b.length ∧ (∀ it ∈ b, it.isVal = true) ∧ ∀ j, (late.getD (k + j) false = true ∧ k + j ≠ c) ∨ a[j]? = b[j]?
 | [], [], k, _ => ⟨rfl, fun it h => by simp at h, fun j => .inr rfl⟩
 | .val t :: r, .val u :: s, k, h => by
  simp only [sameX, Bool.and_eq_true, Bool.or_eq_true, Bool.not_eq_true'] at h
  obtain ⟨h1, h2⟩ := h
  obtain ⟨i1, i2, i3⟩ := sameX_ok h2
  refine ⟨by simp [i1], fun it hit => ?_, fun j => ?_⟩
  ·rcases List.mem_cons.1 hit with rfl | hit
   ·rfl
   ·exact i2 it hit
  ·cases j with
   | zero =>
    rcases h1 with ⟨h3, h4⟩ | h3
    ·exact .inl ⟨h3, fun e => by
      have e : k = c := e
      subst e; simp at h4⟩
    ·right; rw [sameT_ok h3]; rfl
   | succ j =>
    have := i3 j
    rw [show k + 1 + j = k + (j + 1) by omega] at this
    simpa using this
 | [], .val _ :: _, _, h => by cases h
 | .val _ :: _, [], _, h => by cases h
 | .val _ :: _, .new _ _ _ :: _, _, h => by cases h
 | .val _ :: _, .res _ _ :: _, _, h => by cases h
 | .val _ :: _, .put _ _ :: _, _, h => by cases h
 | .put _ _ :: _, _, _, h => by cases h
 | .new _ _ _ :: _, _, _, h => by cases h
 | .res _ _ :: _, _, _, h => by cases h
 | [], .new _ _ _ :: _, _, h => by cases h
 | [], .res _ _ :: _, _, h => by cases h
 | [], .put _ _ :: _, _, h => by cases h
theorem late_ok {ops : Array Oper} {c : Nat} {L : Array Bool} (hc : L.getD c false = false) (hcl : ∀ j o, ops[j]? = some o → L.getD j false = true → ∀ e ∈ o.after, Region.binds .any e = true → L.getD e.on false = true) : ∀ (n j : Nat), (lateL ops c n).getD j false = true → L.getD j false = false
 | 0, j, h => by simp [lateL] at h
 | n + 1, j, h => by
  simp only [lateL] at h
  have hlen : ∀ m, (lateL ops c m).length = m := fun m => by
   induction m with
   | zero => rfl
   | succ m ih => simp only [lateL, List.length_append, ih, List.length_singleton]
  rw [List.getD_eq_getElem?_getD] at h
  by_cases hj : j < n
  ·rw [List.getElem?_append_left (by rw [hlen]; exact hj), ← List.getD_eq_getElem?_getD] at h
   exact late_ok hc hcl n j h
  ·rw [List.getElem?_append_right (by rw [hlen]; omega), hlen] at h
   by_cases hjn : j = n
   ·subst hjn
    rw [Nat.sub_self] at h
    simp only [List.getElem?_cons_zero, Option.getD_some] at h
    split at h
    ·rename_i o ho
     obtain ⟨e, he, h2⟩ := List.any_eq_true.1 h
     simp only [Bool.and_eq_true, Bool.or_eq_true] at h2
     obtain ⟨hb, h3⟩ := h2
     cases hx : L.getD j false with
     | false => rfl
     | true =>
      have h4 := hcl j o ho hx e (by simpa using he) hb
      rcases h3 with h3 | h3
      ·rw [Nat.eq_of_beq_eq_true h3, hc] at h4; cases h4
      ·rw [late_ok hc hcl j e.on h3] at h4; cases h4
    ·cases h
   ·have : j - n ≠ 0 := by omega
    obtain ⟨m, hm⟩ := Nat.exists_eq_succ_of_ne_zero this
    rw [hm] at h
    simp at h
def depB (ops : Array Oper) (n : Nat) (ps : List Nat) (c : Nat) : Bool := ps.any fun p => !(Nat.beq p c) && (lateL ops p n).getD c false
theorem late_edge {ops : Array Oper} {c : Nat} : ∀ (n j : Nat), (lateL ops c n).getD j false = true → ∃ o, ops[j]? = some o ∧ ∃ e ∈ o.after, Region.binds .any e = true ∧ (e.on = c ∨ ∃ m, (lateL ops c m).getD e.on false = true)
 | 0, j, h => by simp [lateL] at h
 | n + 1, j, h => by
  simp only [lateL] at h
  have hlen : ∀ m, (lateL ops c m).length = m := fun m => by
   induction m with
   | zero => rfl
   | succ m ih => simp only [lateL, List.length_append, ih, List.length_singleton]
  rw [List.getD_eq_getElem?_getD] at h
  by_cases hj : j < n
  ·rw [List.getElem?_append_left (by rw [hlen]; exact hj), ← List.getD_eq_getElem?_getD] at h
   exact late_edge n j h
  ·rw [List.getElem?_append_right (by rw [hlen]; omega), hlen] at h
   by_cases hjn : j = n
   ·subst hjn
    rw [Nat.sub_self] at h
    simp only [List.getElem?_cons_zero, Option.getD_some] at h
    split at h
    ·rename_i o ho
     obtain ⟨e, he, h2⟩ := List.any_eq_true.1 h
     simp only [Bool.and_eq_true, Bool.or_eq_true] at h2
     obtain ⟨hb, h3⟩ := h2
     exact ⟨o, ho, e, by simpa using he, hb, h3.imp Nat.eq_of_beq_eq_true fun h => ⟨j, h⟩⟩
    ·cases h
   ·have : j - n ≠ 0 := by omega
    obtain ⟨m, hm⟩ := Nat.exists_eq_succ_of_ne_zero this
    rw [hm] at h
    simp at h
def effQ (P : Program) (cf : Cfg) (sm : Sm) (hp : SH) (neg : List E) (ops : Array Oper) (tm : Tms) (c n : Nat) (its : List It) : Option (SV × SH × Ow) :=
 match ops[c]? with
 | some o => (match guardOf (seeT ops its o.after.toList (maskT ops n tm)) ops neg o.guard with
  | some (some G) => if isT G then (match effO P cf (seeT ops its o.after.toList (maskT ops n tm)) hp G o with
   | some r => some r
   | none => (match opQ2 P cf.q sm (seeT ops its o.after.toList (maskT ops n tm)) hp G o with
    | some (v, ow) => some (v, hp, ow)
    | none => none)) else none
  | _ => none)
 | none => none
def pureK (ops : Array Oper) (j : Nat) : Bool := match ops[j]? with
 | some o => (match o.op with | .move _ | .assign _ | .extract .. => true | _ => false)
 | none => false
def nxOk (P : Program) (cf : Cfg) (sm : Sm) (hp : SH) (neg : List E) (all : Array Oper) (tm : Tms) (k n c : Nat) (its0 : List It) (done : List (Nat × Tm)) (ps : List Nat) : Bool :=
 match itsP P cf sm hp neg all (maskT all n tm) (done ++ unkL ps) ((all.toList.take n).drop k) (knownL all tm k) [] with
 | some (its', _) => sameX (lateL all c n) c 0 its0 its'
 | none => false
def nxtP (P : Program) (cf : Cfg) (sm : Sm) (hp : SH) (neg : List E) (all : Array Oper) (tm : Tms) (k n c : Nat) (its0 : List It) (done : List (Nat × Tm)) (ps : List Nat) : Option (List Nat) :=
 if cf.ord && nxOk P cf sm hp neg all tm k n c its0 done (ps.filter fun j => !pureK all j) then some (ps.filter fun j => !pureK all j) else if nxOk P cf sm hp neg all tm k n c its0 done ps then some ps else none
def chainM (P : Program) (cf : Cfg) (sm : Sm) (rec : Rec) (f0 : FuncId) (fn0 : Func) (neg : List E) (all : Array Oper) (tm : Tms) (k n : Nat) (df : List Nat) (rd : Option Nat) (K : List Fr) : Nat → List Nat → List (Nat × Tm) → SH → Fm
 | _, [], done, hp => (match itsP P cf sm hp neg all (maskT all n tm) done ((all.toList.take n).drop k) (knownL all tm k) [] with
  | some (its, os) => owsF os (rec f0 fn0 (.ops (true, all) (all.toList.drop n)) K ⟨lstT all its (headL all.size n) n tm, hp, neg⟩ df rd)
  | none => .fls)
 | 0, _ :: _, _, _ => .fls
 | m + 1, p :: ps, done, hp => (match itsP P cf sm hp neg all (maskT all n tm) (done ++ unkL (p :: ps)) ((all.toList.take n).drop k) (knownL all tm k) [] with
  | some (its, os) => owsF os (andL (((p :: ps).filter fun c => !depB all n (p :: ps) c).map fun c => (match effQ P cf sm hp neg all tm c n its with
   | some (v, hp', ow) => owF (.bc true) ow (match nxtP P cf sm hp' neg all tm k n c (its.set c (.val ⟨.bc true, v⟩)) ((c, ⟨.bc true, v⟩) :: (depsT all its c ++ done)) (dropN c (p :: ps)) with
    | some ps' => chainM P cf sm rec f0 fn0 neg all tm k n df rd K m ps' ((c, ⟨.bc true, v⟩) :: (depsT all its c ++ done)) hp'
    | none => .fls)
   | none => (match callAt cf neg all tm c n its with
    | some (f, fn, code, vs) => rec f0 fn0 (.code code) (.pm f fn tm df rd all k n c (dropN c (p :: ps)) its (depsT all its c ++ done) :: K) ⟨initT fn.ntmps vs, hp, neg⟩ [] none
    | none => .fls))))
  | none => .fls)
def stepOps (P : Program) (cf : Cfg) (sm : Sm) (rec : Rec) (f0 : FuncId) (fn0 : Func) (all : Bool × Array Oper) (l : List Oper) (K : List Fr) (s : St) (df : List Nat) (rd : Option Nat) : Fm :=
 match all.1 with
 | false => (match runS P cf sm all.2 l s with | (l, s) => (match splitI P s.tm l with
  | some (e, lo, n) => casesI (fun g => rec f0 fn0 (.ops all l) K (assumeN g s) df rd) e lo n
  | none => stepOps1 P cf sm rec f0 fn0 all l K s df rd))
 | true => if Region.seqB .any all.2 l.length (all.2.size - l.length) (headL all.2.size (all.2.size - l.length)) then rec f0 fn0 (.ops (false, all.2) l) K s df rd
  else (match pieceAt P cf sm s.hp s.neg all.2 s.tm (all.2.size - l.length) with
   | some (m, q) => owsF q.ows (match finL cf all.2 q.its q.its 0 (maskT all.2 m s.tm) s.hp with
    | (tm, hp) => rec f0 fn0 (.ops all (all.2.toList.drop m)) K ⟨tm, hp, s.neg⟩ df rd)
   | none => if nextB all l then stepOps1 P cf sm rec f0 fn0 all l K s df rd else (match cpieceAt P cf sm s.hp s.neg all.2 s.tm (all.2.size - l.length) with
    | some (c, n, its, f, fn, code, vs) => rec f0 fn0 (.code code) (.pc f fn s.tm df rd all.2 (all.2.size - l.length) c n its :: K) ⟨initT fn.ntmps vs, s.hp, s.neg⟩ [] none
    | none => (match epieceAt P cf sm s.hp s.neg all.2 s.tm (all.2.size - l.length) with
    | some (c, n, its, v, hp', ow) => owF (.bc true) ow (rec f0 fn0 (.ops all (all.2.toList.drop n)) K ⟨lstT all.2 (its.set c (.val ⟨.bc true, v⟩)) (headL all.2.size n) n s.tm, hp', s.neg⟩ df rd)
    | none => (match splitG s.neg all.2 s.tm (all.2.size - l.length) l with
     | some G => .and (.imp G (rec f0 fn0 (.ops all l) K (assumeN G s) df rd)) (.imp (eNot G) (rec f0 fn0 (.ops all l) K (assumeN (eNot G) s) df rd))
     | none => (match splitD P cf sm s.hp s.neg all.2 s.tm (all.2.size - l.length) l with
      | some (e, lo, n) => casesI (fun g => rec f0 fn0 (.ops all l) K (assumeN g s) df rd) e lo n
      | none => (match mpieceAt P cf sm s.hp s.neg all.2 s.tm (all.2.size - l.length) with
       | some (n, its, hp', ows) => owsF ows (rec f0 fn0 (.ops all (all.2.toList.drop n)) K ⟨lstT all.2 its (headL all.2.size n) n s.tm, hp', s.neg⟩ df rd)
       | none => (match planAt P cf sm s.hp s.neg all.2 s.tm (all.2.size - l.length) with
        | some (n, ps) => chainM P cf sm rec f0 fn0 s.neg all.2 s.tm (all.2.size - l.length) n df rd K ps.length ps [] s.hp
        | none => .fls)))))))
def backM (P : Program) (cf : Cfg) (sm : Sm) (rec : Rec) (f0 : FuncId) (fn0 : Func) (fn : Func) (tm : Tms) (df' : List Nat) (rd' : Option Nat) (all : Array Oper) (k n c : Nat) (ps : List Nat) (its : List It) (done : List (Nat × Tm)) (K : List Fr) (s : St) (df : List Nat) : Fm :=
 match retV P cf s df fn with
 | some (v, hp) => (match nxtP P cf sm hp s.neg all tm k n c (its.set c (.val ⟨.bc true, nz s.neg v⟩)) ((c, ⟨.bc true, nz s.neg v⟩) :: done) ps with
  | some ps' => chainM P cf sm rec f0 fn0 s.neg all tm k n df' rd' K ps'.length ps' ((c, ⟨.bc true, nz s.neg v⟩) :: done) hp
  | none => .fls)
 | none => .fls
def backC (P : Program) (cf : Cfg) (sm : Sm) (rec : Rec) (f0 : FuncId) (fn0 : Func) (fn : Func) (tm : Tms) (df' : List Nat) (rd' : Option Nat) (all : Array Oper) (k c n : Nat) (its : List It) (K : List Fr) (s : St) (df : List Nat) : Fm :=
 match retV P cf s df fn with
 | some (v, hp) => (match itsC P cf sm hp s.neg all tm k c n with
  | some its' => if sameIts its its' then rec f0 fn0 (.ops (true, all) (all.toList.drop n)) K ⟨lstT all (its.set c (.val ⟨.bc true, nz s.neg v⟩)) (headL all.size n) n tm, hp, s.neg⟩ df' rd' else .fls
  | none => .fls)
 | none => .fls
def stepNrm (P : Program) (cf : Cfg) (sm : Sm) (rec : Rec) (f0 : FuncId) (fn0 : Func) (K : List Fr) (s : St) (df : List Nat) (rd : Option Nat) : Fm :=
 match K with
  | [] => (match retV P cf s df fn0 with | some (v, hp) => .leaf v hp | none => .fls)
  | .seq c :: K => rec f0 fn0 (.code c) K s df rd
  | .blk _ :: K => rec f0 fn0 .nrm K s df rd
  | .scp :: K => rec f0 fn0 .nrm K s df rd
  | .lp _ 0 :: _ => .fls
  | .lp c (m + 1) :: K => rec f0 fn0 (.code c) (.lp c m :: K) s df rd
  | .inv L h mv A df0 :: K => if sameN df df0 then (match backF L h mv A s with | some F => F | none => .fls) else .fls
  | .act _ fn tm df' rd' all rest dst :: K => (match retV P cf s df fn with
   | some (v, hp) => rec f0 fn0 (.ops all rest) K ⟨putT tm dst ⟨.bc true, nz s.neg v⟩, hp, s.neg⟩ df' rd'
   | none => .fls)
  | .rng _ fn l _ _ _ tm df' rd' :: K => (match retV P cf s df fn with
   | some (_, hp) => (match lrecOf hp l with
    | some (b, ty, st, pd) => if isBusy st then .fls else rec f0 fn0 (match pd with | none => .nrm | some none => .code .ret | some (some id) => .code (.exit id)) K ⟨tm, hp.set l ⟨b, ty, .dead⟩, s.neg⟩ df' rd'
    | none => .fls)
   | none => .fls)
  | .pc _ fn tm df' rd' all k c n its :: K => backC P cf sm rec f0 fn0 fn tm df' rd' all k c n its K s df
  | .pm _ fn tm df' rd' all k n c ps its done :: K => backM P cf sm rec f0 fn0 fn tm df' rd' all k n c ps its done K s df
  | .asg l body :: K => (match lrecOf s.hp l with
   | some (b, ty, st, pd) => if isReady (st, pd) then rec f0 fn0 (.code body) K ⟨s.tm, s.hp.set l ⟨b, ty, .lrec .busy none⟩, s.neg⟩ df rd else .fls
   | none => .fls)
  | .rnd l tm df' rd' all rest dst :: K => (match lrecOf s.hp l with
   | some (b, ty, _, _) => rec f0 fn0 (.ops all rest) K ⟨putT tm dst ⟨.bc true, .c (.bool (.bc true))⟩, s.hp.set l ⟨b, ty, .lrec .ready none⟩, s.neg⟩ df' rd'
   | none => .fls)
def stepEx (P : Program) (cf : Cfg) (rec : Rec) (f0 : FuncId) (fn0 : Func) (id : Nat) (K : List Fr) (s : St) (df : List Nat) (rd : Option Nat) : Fm :=
 match K with
  | .seq _ :: K => rec f0 fn0 (.ex id) K s df rd
  | .blk i :: K => if id = i then rec f0 fn0 .nrm K s df rd else rec f0 fn0 (.ex id) K s df rd
  | .lp _ _ :: K => rec f0 fn0 (.ex id) K s df rd
  | .inv .. :: K => rec f0 fn0 (.ex id) K s df rd
  | .scp :: K => rec f0 fn0 (.ex id) K s df rd
  | .rnd l tm df' rd' all rest dst :: K => (match lrecOf s.hp l with
   | some (b, ty, _, _) => rec f0 fn0 (.ops all rest) K ⟨putT tm dst ⟨.bc true, .c (.bool (.bc false))⟩, s.hp.set l ⟨b, ty, .lrec .done (some (some id))⟩, s.neg⟩ df' rd'
   | none => .fls)
  | _ => .fls
def stepRet (P : Program) (cf : Cfg) (sm : Sm) (rec : Rec) (f0 : FuncId) (fn0 : Func) (K : List Fr) (s : St) (df : List Nat) (rd : Option Nat) : Fm :=
 match K with
  | [] => (match retV P cf s df fn0 with | some (v, hp) => .leaf v hp | none => .fls)
  | .act _ fn tm df' rd' all rest dst :: K => (match retV P cf s df fn with
   | some (v, hp) => rec f0 fn0 (.ops all rest) K ⟨putT tm dst ⟨.bc true, nz s.neg v⟩, hp, s.neg⟩ df' rd'
   | none => .fls)
  | .rng _ fn l _ _ _ tm df' rd' :: K => (match retV P cf s df fn with
   | some (_, hp) => (match lrecOf hp l with
    | some (b, ty, st, pd) => if isBusy st then .fls else rec f0 fn0 (match pd with | none => .nrm | some none => .code .ret | some (some id) => .code (.exit id)) K ⟨tm, hp.set l ⟨b, ty, .dead⟩, s.neg⟩ df' rd'
    | none => .fls)
   | none => .fls)
  | .rnd l tm df' rd' all rest dst :: K => (match lrecOf s.hp l with
   | some (b, ty, _, _) => rec f0 fn0 (.ops all rest) K ⟨putT tm dst ⟨.bc true, .c (.bool (.bc false))⟩, s.hp.set l ⟨b, ty, .lrec .done (some none)⟩, s.neg⟩ df' rd'
   | none => .fls)
  | .pc _ fn tm df' rd' all k c n its :: K => backC P cf sm rec f0 fn0 fn tm df' rd' all k c n its K s df
  | .pm _ fn tm df' rd' all k n c ps its done :: K => backM P cf sm rec f0 fn0 fn tm df' rd' all k n c ps its done K s df
  | .asg _ _ :: _ => .fls
  | .seq _ :: K => rec f0 fn0 .ret K s df rd
  | .blk _ :: K => rec f0 fn0 .ret K s df rd
  | .lp _ _ :: K => rec f0 fn0 .ret K s df rd
  | .inv .. :: K => rec f0 fn0 .ret K s df rd
  | .scp :: K => rec f0 fn0 .ret K s df rd
def smOf (rec : Rec) : Sm := fun fn c vs => (rec 0 fn (.code c) [] (begin0 fn vs) [] none).mrg
def goStep (P : Program) (cf : Cfg) (rec : Rec) : Rec := fun f0 fn0 ctl K s df rd => match ctl with
 | .code c => stepCode P cf (smOf rec) rec f0 fn0 c K s df rd
 | .ops all l => stepOps P cf (smOf rec) rec f0 fn0 all l K s df rd
 | .nrm => stepNrm P cf (smOf rec) rec f0 fn0 K s df rd
 | .ex id => stepEx P cf rec f0 fn0 id K s df rd
 | .ret => stepRet P cf (smOf rec) rec f0 fn0 K s df rd
def goN (P : Program) (cf : Cfg) : Nat → Rec
 | 0 => fun _ _ _ _ _ _ _ => .fls
 | n + 1 => goStep P cf (goN P cf n)
theorem goN_zero (P : Program) (cf : Cfg) : goN P cf 0 = fun _ _ _ _ _ _ _ => .fls := rfl
theorem goN_succ (P : Program) (cf : Cfg) (n : Nat) : goN P cf (n + 1) = goStep P cf (goN P cf n) := rfl
attribute [irreducible] goN
def go (P : Program) (cf : Cfg) (f0 : FuncId) (fn0 : Func) (n : Nat) (ctl : Ctl) (K : List Fr) (s : St) (df : List Nat) (rd : Option Nat) : Fm := goN P cf n f0 fn0 ctl K s df rd
end Vc
end Go.Proofs.YtelbilnnmmbmdaaDoor
