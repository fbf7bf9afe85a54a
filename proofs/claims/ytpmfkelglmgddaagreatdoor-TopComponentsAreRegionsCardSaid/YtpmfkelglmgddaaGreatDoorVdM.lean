/- Loops with an invariant: the state at a loop's head, and when a state is one of its instances. -/
import Derived.Test.YtpmfkelglmgddaaGreatDoorVdU
import Derived.Laws.Cover3
import Derived.LoopNIn
import Derived.Scope
namespace Go.Proofs.YtpmfkelglmgddaaGreatDoor
namespace Vc
open Go Go.RowKit
set_option linter.unusedVariables false
def aw.IM (f : Tm → Bool) (tm : aw) : Nat → Bool
 | 0 => true
 | n + 1 => (match tm.t.get n with | some x => f x | none => true) && tm.IM f n
theorem aw.vB {f : Tm → Bool} {tm : aw} : ∀ {n d : Nat} {x : Tm}, tm.IM f n = true → d < n → tm.t.get d = some x → f x = true
 | n + 1, d, x, h, hd, hx => by
  simp only [aw.IM, Bool.and_eq_true] at h
  by_cases hn : d = n
  ·subst hn; rw [hx] at h; exact h.1
  ·exact aw.vB h.2 (by omega) hx
def aw.av (p : Nat → Bool) (m : Nat) (tm : aw) : Bool := tm.IM (Tm.av p m) tm.n
def HE.av (p : Nat → Bool) (m : Nat) (h : HE) : Bool := match h.k with
 | .cells cs => cs.all (SC.av p m)
 | .row _ R n _ => R.eB m && n.eB m
 | .grow _ cs => cs.all (SC.av p m)
 | .iter s q _ => s.eB m && q.eB m
 | .lb R n _ => R.eB m && n.eB m
 | .lg l o => p l && (match o with | none => true | some e => e.eB m)
 | .mS _ Q _ _ => Q.eB m
 | .abs _ lo A => lo.all p && A.eB m
 | _ => true
section
variable {P : Program} {p : Nat → Bool} {m B : Nat} {ρ ρ' : Env} {w0 w : World} {ls ls' : Ls} {hp : SH} {tm : aw} {a : Act}
theorem aX.move (hM : bR p m ρ ρ' ls ls') (ht : tm.av p m = true) (hr : aX ρ ls tm a) : aX ρ' ls' tm a :=
 ⟨hr.1, fun d t hd hg => RT.move hM (aw.vB ht hd hg) (hr.2 d t hd hg)⟩
def It.av (p : Nat → Bool) (m : Nat) : It → Bool
 | .val t => t.av p m
 | _ => false
theorem lC.move {ops : Array Oper} {ah : List It} {L : Array Bool} {n : Nat} (hM : bR p m ρ ρ' ls ls') (ht : tm.av p m = true) (hi : ah.all (It.av p m) = true) (h : lC ρ ls ops ah L n tm a) : lC ρ' ls' ops ah L n tm a :=
 ⟨h.1, fun d t h1 h2 h3 => RT.move hM (aw.vB ht h1 h2) (h.2.1 d t h1 h2 h3), fun i t d h1 h2 h3 h4 => RT.move hM (List.all_eq_true.1 hi _ (List.mem_of_getElem? h3)) (h.2.2 i t d h1 h2 h3 h4)⟩
theorem Bm {ops : Array Oper} {ah : List It} {L : Array Bool} {n : Nat} {k : Nat → Option Loop} (h : lC ρ ls ops ah L n tm a) : lC (ρ.wk k) ls ops ah L n tm a := by
 unfold lC at *
 rw [Jr]
 exact h
theorem aT.move (hM : bR p m ρ ρ' ls ls') {i : Nat} {x : HE} (hx : x.av p m = true) (hi : p i = true) (h : aT ρ B w ls i x) : aT ρ' B w ls' i x := by
 have el := hM.ls i hi
 obtain ⟨wr, ty, k⟩ := x
 cases k with
 | dead => trivial
 | cells cs =>
  obtain ⟨a, vs, h1, h2, h3⟩ := h
  exact ⟨a, vs, el.trans h1, EF.move hM hx h2, h3⟩
 | row sh R n hi' =>
  simp only [HE.av, Bool.and_eq_true] at hx
  obtain ⟨A, c, h1, h2⟩ := h
  have eR := aC hM.ag hx.1
  have en := aC hM.ag hx.2
  refine ⟨A, c, el.trans ?_, ?_⟩
  ·unfold aa at h1 ⊢; rw [en]; exact h1
  ·unfold aa aU at h2 ⊢; rw [en, eR]; exact h2
 | grow sz cs =>
  obtain ⟨hw, h0, A, n, c, vs, h1, h2, h3, h4⟩ := h
  exact ⟨hw, h0, A, n, c, vs, el.trans h1, h2, EF.move hM hx h3, h4⟩
 | mark => obtain ⟨hw, D, h1, h2⟩ := h; exact ⟨hw, D, el.trans h1, h2⟩
 | bW st pd =>
  obtain ⟨hw, L, r, h1, h2, h3⟩ := h
  exact ⟨hw, L, r, el.trans h1, (hM.k i hi).trans h2, h3⟩
 | iter s q hi' =>
  simp only [HE.av, Bool.and_eq_true] at hx
  obtain ⟨hw, L, str, h1, h2⟩ := h
  refine ⟨hw, L, str, el.trans h1, ?_⟩
  unfold aa at h2 ⊢
  rw [aC hM.ag hx.1, aC hM.ag hx.2]; exact h2
 | lb R n hi' =>
  simp only [HE.av, Bool.and_eq_true] at hx
  obtain ⟨hw, L, es, clock, h1, h2⟩ := h
  refine ⟨hw, L, es, clock, el.trans h1, ?_⟩
  unfold aa aU at h2 ⊢
  rw [aC hM.ag hx.1, aC hM.ag hx.2]; exact h2
 | lg l o =>
  simp only [HE.av, Bool.and_eq_true] at hx
  obtain ⟨hw, L, vs, cs, h1, h0, h2, h3, h4, h5⟩ := h
  refine ⟨hw, L, vs, cs, el.trans h1, (hM.ls l hx.1).trans h0, h2, h3, h4, fun j hj => h5 j fun e he => ?_⟩
  subst he
  have := hj e rfl
  unfold aa at this ⊢
  rw [aC hM.ag hx.2] at this; exact this
 | mS K Q s hi' =>
  obtain ⟨hw, vs, h1, h2, h3, h4⟩ := h
  refine ⟨hw, vs, el.trans h1, h2, fun j hj => ?_, h4⟩
  unfold aU at h3 ⊢
  rw [aC hM.ag hx]; exact h3 j hj
 | abs t lo A =>
  simp only [HE.av, Bool.and_eq_true] at hx
  obtain ⟨v, vs, h1, h2, h3⟩ := h
  refine ⟨v, vs, el.trans h1, np hM hx.1 h2, ?_⟩
  rw [aC hM.ag hx.2, hM.ag.o]; exact h3
end
def cB (n : Nat) (mv : List (Nat × Nat)) (l : Nat) : Bool := Nat.blt l n && !(mv.any fun x => Nat.beq x.1 l)
def sig : List (Nat × Nat) → Nat → Nat
 | [], l => l
 | (a, b) :: r, l => if Nat.beq a l then b else sig r l
theorem ke {n : Nat} {l : Nat} : ∀ {mv : List (Nat × Nat)}, cB n mv l = true → sig mv l = l ∧ l < n
 | [], h => by simp [cB] at h; exact ⟨rfl, h⟩
 | (a, b) :: r, h => by
  simp only [cB, List.any_cons, Bool.not_or, Bool.and_eq_true] at h
  obtain ⟨h1, h2, h3⟩ := h
  have hne : Nat.beq a l = false := by simpa using h2
  obtain ⟨i1, i2⟩ := ke (mv := r) (n := n) (l := l) (by simp only [cB, Bool.and_eq_true]; exact ⟨h1, h3⟩)
  exact ⟨by simp only [sig, hne]; exact i1, i2⟩
def vC : List Nat → Bool
 | [] => true
 | x :: r => !(r.any fun y => Nat.beq y x) && vC r
theorem tS : ∀ {l : List Nat}, vC l = true → ∀ {i j : Nat} {x : Nat}, l[i]? = some x → l[j]? = some x → i = j
 | [], _, i, j, x, hi, _ => by simp at hi
 | y :: r, h, i, j, x, hi, hj => by
  simp only [vC, Bool.and_eq_true, Bool.not_eq_true'] at h
  have no : ∀ k : Nat, r[k]? ≠ some y := fun k hk => by
   have := List.any_eq_false.1 h.1 y (List.mem_of_getElem? hk)
   simp at this
  cases i with
  | zero =>
   cases j with
   | zero => rfl
   | succ j => simp at hi hj; subst hi; exact (no j hj).elim
  | succ i =>
   cases j with
   | zero => simp at hi hj; subst hj; exact (no i hi).elim
   | succ j => simp at hi hj; rw [tS h.2 hi hj]
def eb (ls : Ls) (mv : List (Nat × Nat)) (n : Nat) : Ls := (List.range n).map fun l => (ls[sig mv l]?).getD undef
theorem bY {ls : Ls} {mv : List (Nat × Nat)} {n l : Nat} {v : Value} (hl : l < n) (h : ls[sig mv l]? = some v) : (eb ls mv n)[l]? = some v := by
 unfold eb
 rw [List.getElem?_map, List.getElem?_range hl]
 simp [h]
def vD (θ : List E) (m j : Nat) : Option E := if Nat.ble m j then θ[j - m]? else none
def xD (p : Nat → Bool) (m : Nat) (h c : SC) : Option (List E) := if h.av p m then (if ri h c then some [] else (match h, c with
 | .int k e lo hi, .int k' e' lo' hi' => if k = k' then some ((if aY e e' then [] else [.eq e e']) ++ uY e' lo hi lo' hi') else none
 | .bool e, .bool e' => some [.iff e e']
 | _, _ => none)) else none
def Ot (p : Nat → Bool) (m : Nat) (mv : List (Nat × Nat)) (θ : List E) (h c : SC) : Option (List E) :=
 match h, c with
 | .kW, _ => some []
 | .int k (.var j) lo hi, .int k' e lo' hi' => (match vD θ m j with
  | some t => if k = k' ∧ aY t (fB e) = true then some (uY e lo hi lo' hi') else none
  | none => xD p m h c)
 | .bool (.var j), .bool e => (match vD θ m j with
  | some t => if aY t (qL e) = true then some [] else none
  | none => xD p m h c)
 | .ow l, .ow l' => if p l then (if Nat.beq l l' then some [] else none) else (if mv.any (fun x => Nat.beq x.1 l) && Nat.beq (sig mv l) l' then some [] else none)
 | .ptr l o, .ptr l' o' => if p l then (if Nat.beq l l' && Nat.beq o o' then some [] else none) else (if mv.any (fun x => Nat.beq x.1 l) && Nat.beq (sig mv l) l' && Nat.beq o o' then some [] else none)
 | h, c => xD p m h c
def iL (p : Nat → Bool) (m : Nat) (mv : List (Nat × Nat)) (θ : List E) : List SC → List SC → Option (List E)
 | [], [] => some []
 | h :: hs, c :: cs => (match Ot p m mv θ h c, iL p m mv θ hs cs with | some a, some b => some (a ++ b) | _, _ => none)
 | _, _ => none
def iT (p : Nat → Bool) (m : Nat) (mv : List (Nat × Nat)) (θ : List E) (h c : Tm) : Option (List E) :=
 match h.v, c.v with
 | .c s, .c s' => if lJ h.g && lJ c.g then Ot p m mv θ s s' else (match s with
  | .kW => if lJ h.g then some [] else none
  | _ => if n5 h c && h.av p m then some [] else none)
 | .agg l, .agg l' => if lJ h.g && lJ c.g then iL p m mv θ l l' else (if n5 h c && h.av p m then some [] else none)
 | .c .kW, _ => if lJ h.g then some [] else none
 | _, _ => none
def IN (p : Nat → Bool) (m : Nat) (mv : List (Nat × Nat)) (θ : List E) (h c : aw) : Nat → Option (List E)
 | 0 => some []
 | n + 1 => (match h.t.get n, c.t.get n with
  | some x, some y => (match iT p m mv θ x y, IN p m mv θ h c n with | some a, some b => some (b ++ a) | _, _ => none)
  | _, _ => none)
def vE : List Sk → List Sk → Bool
 | [], [] => true
 | a :: r, b :: s => decide (a = b) && vE r s
 | _, _ => false
def iJ (h c : HE) : Bool := (h.wr == c.wr) && Nat.beq h.ty c.ty && (match h.k, c.k with
 | .cells a, .cells b => rj a b
 | .row sh R n hi, .row sh' R' n' hi' => vE sh sh' && aY R R' && aY n n' && decide (hi = hi')
 | .grow s a, .grow s' b => Nat.beq s s' && rj a b
 | .mark, .mark => true
 | .bW .ready none, .bW .ready none => true
 | .bW .busy none, .bW .busy none => true
 | .dead, .dead => true
 | .iter s q hi, .iter s' q' hi' => aY s s' && aY q q' && decide (hi = hi')
 | .lb R n hi, .lb R' n' hi' => aY R R' && aY n n' && decide (hi = hi')
 | .lg l none, .lg l' none => Nat.beq l l'
 | .mS K Q s hi, .mS K' Q' s' hi' => Nat.beq K K' && aY Q Q' && decide (s = s') && decide (hi = hi')
 | .abs t lo A, .abs t' lo' A' => Nat.beq t t' && decide (lo = lo') && aY A A'
 | _, _ => false)
def Ou (p : Nat → Bool) (m : Nat) (mv : List (Nat × Nat)) (θ : List E) (l : Nat) (h c : HE) : Option (List E) :=
 match h.k, c.k with
 | .dead, _ => some []
 | .cells a, .cells b => if (h.wr == c.wr) && Nat.beq h.ty c.ty then iL p m mv θ a b else none
 | .row sh (.var j) (.var j') hi, .row sh' R n hi' => (match vD θ m j with
  | some t => if (!h.wr || c.wr) && Nat.beq h.ty c.ty && Nat.beq j j' && aY t (gq R n) && iw sh' sh then some (uY n 0 hi 0 hi') else none
  | none => if iJ h c && h.av p m && p l then some [] else none)
 | .iter s (.var j) hi, .iter s' q hi' => (match vD θ m j with
  | some t => if (h.wr == c.wr) && aY t (fB q) && aY s s' && s.eB m && decide (hi = hi') then some [] else none
  | none => if iJ h c && h.av p m && p l then some [] else none)
 | .lb (.var j) (.var j') hi, .lb R n hi' => (match vD θ m j with
  | some t => if (h.wr == c.wr) && Nat.beq j j' && aY t (gq R n) then some (uY n 0 hi 0 hi') else none
  | none => if iJ h c && h.av p m && p l then some [] else none)
 | .lg l1 none, .lg l2 none => if (h.wr == c.wr) && Nat.beq h.ty c.ty && (p l1 || mv.any (fun x => Nat.beq x.1 l1)) && Nat.beq (sig mv l1) l2 then some [] else none
 | .mS K (.var j) s hi, .mS K' Q s' hi' => (match vD θ m j with
  | some t => if (h.wr == c.wr) && Nat.beq h.ty c.ty && Nat.beq K K' && aY t Q && w7 s' s && decide (hi' ≤ hi) then some [] else none
  | none => if iJ h c && h.av p m && p l then some [] else none)
 | .abs t lo (.cons (.var j) D), .abs t' lo' (.cons R D') => (match vD θ m j with
  | some u => if (h.wr == c.wr) && Nat.beq h.ty c.ty && Nat.beq t t' && aY u R && aY D D' && D.eB m && lo.all (fun l1 => p l1 || mv.any (fun x => Nat.beq x.1 l1)) && decide (lo.map (sig mv) = lo') then some [] else none
  | none => if iJ h c && h.av p m && p l then some [] else none)
 | .abs t lo .nil, .abs t' lo' .nil => if (h.wr == c.wr) && Nat.beq h.ty c.ty && Nat.beq t t' && lo.all (fun l1 => p l1 || mv.any (fun x => Nat.beq x.1 l1)) && decide (lo.map (sig mv) = lo') then some [] else none
 | _, _ => if iJ h c && h.av p m && p l then some [] else none
def Ov (p : Nat → Bool) (m : Nat) (mv : List (Nat × Nat)) (θ : List E) (cur : SH) : SH → Nat → Option (List E)
 | [], _ => some []
 | h :: r, l => (match cur[sig mv l]? with
  | some c => (match Ou p m mv θ l h c, Ov p m mv θ cur r (l + 1) with | some a, some b => some (a ++ b) | _, _ => none)
  | none => none)
def inst (m : Nat) (mv : List (Nat × Nat)) (θ : List E) (h c : St) : Option (List E) :=
 if Nat.beq h.tm.n c.tm.n && vC ((List.range h.hp.length).map (sig mv)) then
  (match IN (cB h.hp.length mv) m mv θ h.tm c.tm h.tm.n, Ov (cB h.hp.length mv) m mv θ c.hp h.hp 0 with
    | some a, some b => some (a ++ b)
    | _, _ => none) else none
section
variable {P : Program} {m B n : Nat} {ρ : Env} {w0 w : World} {ls : Ls} {hp : SH} {tm : aw} {a : Act} {mv : List (Nat × Nat)} {θ : List E}
def cJ (ρ : Env) (m : Nat) (θ : List E) : Env := ρ.cV m (θ.map fun e => (ev ρ e).x)
theorem fU {j : Nat} {t : E} (h : vD θ m j = some t) : (cJ ρ m θ).x j = (ev ρ t).x := by
 unfold vD at h
 split at h
 ·rename_i hle
  have hle := Nat.le_of_ble_eq_true hle
  have := mf ρ m (θ.map fun e => (ev ρ e).x) (j - m) (ev ρ t).x (by rw [List.getElem?_map, h]; rfl)
  rwa [show m + (j - m) = j by omega] at this
 ·cases h
theorem FR (hlen : ∀ l, l < n → sig mv l < ls.length) : bR (cB n mv) m ρ (cJ ρ m θ) ls (eb ls mv n) :=
 ⟨Agree.cV ρ m _, fun l hl => by
   obtain ⟨h1, h2⟩ := ke hl
   have h3 := hlen l h2
   rw [h1] at h3
   have : ls[sig mv l]? = some ls[l] := by rw [h1]; exact List.getElem?_eq_getElem h3
   rw [bY h2 this, List.getElem?_eq_getElem h3], fun l hl => rfl⟩
theorem gd {e : E} : aa ρ (fB e) = aa ρ e := by
 unfold fB
 split <;> simp [aa, ev, dI, xI]
theorem IP {e : E} : al ρ (qL e) = al ρ e := by
 unfold qL
 split <;> simp [al, ev, dB, xB]
theorem rM (hM : bR (cB n mv) m ρ (cJ ρ m θ) ls (eb ls mv n)) {h c : SC} {bg : List E} (hi : xD (cB n mv) m h c = some bg) (ho : ∀ e ∈ bg, al ρ e = true) {v : Value} (hr : RS ρ ls c v) : RS (cJ ρ m θ) (eb ls mv n) h v := by
 unfold xD at hi
 split at hi
 ·rename_i hav
  split at hi
  ·rename_i hs
   have e0 := nE hs
   subst e0
   exact RS.move hM hav hr
  ·split at hi
   ·rename_i k e lo hi' k' e' lo' hi'' hns
    split at hi
    ·rename_i hk
     subst hk
     cases hi
     have he : aa ρ e = aa ρ e' := by
      by_cases hq : aY e e' = true
      ·rw [aG hq]
      ·exact of_decide_eq_true (ho (.eq e e') (by simp [hq]))
     refine RS.move hM hav ?_
     obtain ⟨r1, r2, r3⟩ := hr
     have := iC (fun x hx => ho x (List.mem_append_right _ hx)) r2 r3
     exact ⟨by rw [he]; exact r1, by rw [he]; exact this.1, by rw [he]; exact this.2⟩
    ·cases hi
   ·rename_i e e' hns
    cases hi
    refine RS.move hM hav ?_
    have hb : (al ρ e == al ρ e') = true := ho (.iff e e') (by simp)
    have hr : v = .bool (al ρ e') := hr
    show v = .bool (al ρ e)
    rw [beq_iff_eq.1 hb]; exact hr
   ·cases hi
 ·cases hi
theorem FT (hM : bR (cB n mv) m ρ (cJ ρ m θ) ls (eb ls mv n)) (hn : ∀ l, mv.any (fun x => Nat.beq x.1 l) = true → l < n) {h c : SC} {bg : List E} (hi : Ot (cB n mv) m mv θ h c = some bg) (ho : ∀ e ∈ bg, al ρ e = true) {v : Value} (hr : RS ρ ls c v) :
 RS (cJ ρ m θ) (eb ls mv n) h v := by
 unfold Ot at hi
 split at hi
 ·trivial
 ·split at hi
  ·rename_i t ht
   split at hi
   ·rename_i hc
    obtain ⟨rfl, h2⟩ := hc
    cases hi
    have e1 := fU (ρ := ρ) ht
    rw [aG h2] at e1
    have e2 : aa (cJ ρ m θ) (.var _) = _ := congrArg X.i e1
    have e2 := e2.trans gd
    obtain ⟨r1, r2, r3⟩ := hr
    have := iC ho r2 r3
    exact ⟨by rw [e2]; exact r1, by rw [e2]; exact this.1, by rw [e2]; exact this.2⟩
   ·cases hi
  ·exact rM hM hi ho hr
 ·split at hi
  ·rename_i t ht
   split at hi
   ·rename_i h2
    have e1 := fU (ρ := ρ) ht
    rw [aG h2] at e1
    have e2 : al (cJ ρ m θ) (.var _) = _ := congrArg X.b e1
    have e2 := e2.trans IP
    have hr : v = _ := hr
    show v = _
    rw [e2]; exact hr
   ·cases hi
  ·exact rM hM hi ho hr
 ·split at hi
  ·rename_i hp
   split at hi
   ·rename_i he
    have he := Nat.eq_of_beq_eq_true he
    subst he
    exact RS.move hM (s := .ow _) hp hr
   ·cases hi
  ·split at hi
   ·rename_i hc
    simp only [Bool.and_eq_true] at hc
    have he := Nat.eq_of_beq_eq_true hc.2
    exact ⟨bY (hn _ hc.1) (by rw [he]; exact hr.1), hr.2⟩
   ·cases hi
 ·split at hi
  ·rename_i hp
   split at hi
   ·rename_i he
    simp only [Bool.and_eq_true] at he
    have h1 := Nat.eq_of_beq_eq_true he.1
    have h2 := Nat.eq_of_beq_eq_true he.2
    subst h1 h2
    exact RS.move hM (s := .ptr _ _) hp hr
   ·cases hi
  ·split at hi
   ·rename_i hc
    simp only [Bool.and_eq_true] at hc
    have he := Nat.eq_of_beq_eq_true hc.1.2
    have h2 := Nat.eq_of_beq_eq_true hc.2
    subst h2
    obtain ⟨a, g1, g2⟩ := hr
    exact ⟨a, bY (hn _ hc.1.1) (by rw [he]; exact g1), g2⟩
   ·cases hi
 ·exact rM hM hi ho hr
theorem FU (hM : bR (cB n mv) m ρ (cJ ρ m θ) ls (eb ls mv n)) (hn : ∀ l, mv.any (fun x => Nat.beq x.1 l) = true → l < n) : ∀ {h c : List SC} {bg : List E} {vs : List Value}, iL (cB n mv) m mv θ h c = some bg → (∀ e ∈ bg, al ρ e = true) → ai (RS ρ ls) c vs →
 ai (RS (cJ ρ m θ) (eb ls mv n)) h vs
 | [], [], _, [], _, _, _ => trivial
 | h :: hs, c :: cs, bg, v :: vs, hi, ho, hr => by
  simp only [iL] at hi
  split at hi
  ·rename_i x y hx hy
   cases hi
   exact ⟨FT hM hn hx (fun e he => ho e (by simp [he])) hr.1, FU hM hn hy (fun e he => ho e (by simp [he])) hr.2⟩
  ·cases hi
 | [], [], _, _ :: _, _, _, hr => hr.elim
 | [], _ :: _, _, _, hi, _, _ => by cases hi
 | _ :: _, [], _, _, hi, _, _ => by cases hi
 | _ :: _, _ :: _, _, [], _, _, hr => hr.elim
theorem NN (hM : bR (cB n mv) m ρ (cJ ρ m θ) ls (eb ls mv n)) (hn : ∀ l, mv.any (fun x => Nat.beq x.1 l) = true → l < n) {h c : Tm} {bg : List E} (hi : iT (cB n mv) m mv θ h c = some bg) (ho : ∀ e ∈ bg, al ρ e = true) {v : Value} (hr : RT ρ ls c v) :
 RT (cJ ρ m θ) (eb ls mv n) h v := by
 have same : ∀ {h c : Tm}, (n5 h c && h.av (cB n mv) m) = true → RT ρ ls c v → RT (cJ ρ m θ) (eb ls mv n) h v := fun e hr => by
  simp only [Bool.and_eq_true] at e
  have e0 := mC e.1
  subst e0
  exact RT.move hM e.2 hr
 obtain ⟨hg, hv⟩ := h
 obtain ⟨cg, cv⟩ := c
 unfold iT at hi
 simp only at hi
 split at hi
 ·split at hi
  ·rename_i hc
   simp only [Bool.and_eq_true] at hc
   have h1 := FT hM hn hi ho (hr.1 (bJ hc.2))
   exact ⟨fun _ => h1, fun e => by rw [bJ hc.1] at e; cases e⟩
  ·split at hi
   ·split at hi
    ·rename_i hg'
     exact ⟨fun _ => trivial, fun e => by rw [bJ hg'] at e; cases e⟩
    ·cases hi
   ·split at hi
    ·rename_i hc; exact same hc hr
    ·cases hi
 ·split at hi
  ·rename_i hc
   simp only [Bool.and_eq_true] at hc
   obtain ⟨vs, h1, h2⟩ := hr.1 (bJ hc.2)
   exact ⟨fun _ => ⟨vs, h1, FU hM hn hi ho h2⟩, fun e => by rw [bJ hc.1] at e; cases e⟩
  ·split at hi
   ·rename_i hc; exact same hc hr
   ·cases hi
 ·split at hi
  ·rename_i hg'
   exact ⟨fun _ => trivial, fun e => by rw [bJ hg'] at e; cases e⟩
  ·cases hi
 ·cases hi
theorem BB (hM : bR (cB n mv) m ρ (cJ ρ m θ) ls (eb ls mv n)) (hn : ∀ l, mv.any (fun x => Nat.beq x.1 l) = true → l < n) {h c : aw} (hr : aX ρ ls c a) : ∀ {N : Nat} {bg : List E}, IN (cB n mv) m mv θ h c N = some bg → N ≤ c.n → (∀ e ∈ bg, al ρ e = true) →
 ∀ d t, d < N → h.t.get d = some t → RT (cJ ρ m θ) (eb ls mv n) t (a.tmps.getD d undef)
 | 0, _, _, _, _, d, _, hd, _ => by omega
 | N + 1, bg, hi, hN, ho, d, t, hd, ht => by
  simp only [IN] at hi
  split at hi
  ·rename_i x y hx hy
   split at hi
   ·rename_i p q hp hq
    cases hi
    by_cases hdN : d = N
    ·subst hdN
     rw [hx] at ht
     cases ht
     exact NN hM hn hp (fun e he => ho e (by simp [he])) (hr.2 d y (by omega) hy)
    ·exact BB hM hn hr hq (by omega) (fun e he => ho e (by simp [he])) d t (by omega) ht
   ·cases hi
  ·cases hi
theorem tT : ∀ {a b : List Sk}, vE a b = true → a = b
 | [], [], _ => rfl
 | _ :: _, _ :: _, h => by
  simp only [vE, Bool.and_eq_true, decide_eq_true_eq] at h
  rw [h.1, tT h.2]
 | [], _ :: _, h => by cases h
 | _ :: _, [], h => by cases h
theorem C0 {h c : HE} (e : iJ h c = true) : h = c := by
 obtain ⟨hw, ht, hk⟩ := h
 obtain ⟨cw, ct, ck⟩ := c
 simp only [iJ, Bool.and_eq_true, beq_iff_eq] at e
 obtain ⟨⟨rfl, e2⟩, e3⟩ := e
 have e2 := Nat.eq_of_beq_eq_true e2
 subst e2
 split at e3
 ·rw [jD e3]
 ·simp only [Bool.and_eq_true, decide_eq_true_eq] at e3
  obtain ⟨⟨⟨e4, e5⟩, e6⟩, rfl⟩ := e3
  rw [tT e4, aG e5, aG e6]
 ·simp only [Bool.and_eq_true] at e3
  rw [Nat.eq_of_beq_eq_true e3.1, jD e3.2]
 ·rfl
 ·rfl
 ·rfl
 ·rfl
 ·simp only [Bool.and_eq_true, decide_eq_true_eq] at e3
  rw [aG e3.1.1, aG e3.1.2, e3.2]
 ·simp only [Bool.and_eq_true, decide_eq_true_eq] at e3
  rw [aG e3.1.1, aG e3.1.2, e3.2]
 ·rw [Nat.eq_of_beq_eq_true e3]
 ·simp only [Bool.and_eq_true, decide_eq_true_eq] at e3
  rw [Nat.eq_of_beq_eq_true e3.1.1.1, aG e3.1.1.2, e3.1.2, e3.2]
 ·simp only [Bool.and_eq_true, decide_eq_true_eq] at e3
  rw [Nat.eq_of_beq_eq_true e3.1.1, e3.1.2, aG e3.2]
 ·cases e3
theorem rN (hn : ∀ l, mv.any (fun x => Nat.beq x.1 l) = true → l < n) : ∀ {lo lo' : List Nat} {vs : List Value}, lo.all (fun l1 => cB n mv l1 || mv.any (fun x => Nat.beq x.1 l1)) = true → lo.map (sig mv) = lo' → ai (fun l u => ls[l]? = some u) lo' vs → ai (fun l u => (eb ls mv n)[l]? = some u) lo vs
 | [], _, vs, _, rfl, h => by cases vs with | nil => trivial | cons _ _ => exact h.elim
 | l1 :: lo, _, v :: vs, h1, rfl, h => by
  simp only [List.all_cons, Bool.and_eq_true, Bool.or_eq_true] at h1
  refine ⟨bY ?_ h.1, rN hn h1.2 rfl h.2⟩
  rcases h1.1 with e | e
  ·exact (ke e).2
  ·exact hn _ e
 | _ :: _, _, [], _, rfl, h => h.elim
theorem Mf (hM : bR (cB n mv) m ρ (cJ ρ m θ) ls (eb ls mv n)) (hn : ∀ l, mv.any (fun x => Nat.beq x.1 l) = true → l < n) {l : Nat} (hl : l < n) {h c : HE} {bg : List E} (hi : Ou (cB n mv) m mv θ l h c = some bg) (ho : ∀ e ∈ bg, al ρ e = true) (hc : aT ρ B w ls (sig mv l) c) :
 aT (cJ ρ m θ) B w (eb ls mv n) l h ∧ (h.live = true → c.live = true) ∧ ∀ b, bn (cJ ρ m θ) (eb ls mv n) l h b → eK ls[sig mv l]? b → bn ρ ls (sig mv l) c b := by
 have same : (iJ h c && h.av (cB n mv) m && cB n mv l) = true → aT (cJ ρ m θ) B w (eb ls mv n) l h ∧ (h.live = true → c.live = true) ∧ ∀ b, bn (cJ ρ m θ) (eb ls mv n) l h b → eK ls[sig mv l]? b → bn ρ ls (sig mv l) c b := fun e => by
  simp only [Bool.and_eq_true] at e
  obtain ⟨⟨e1, e2⟩, e3⟩ := e
  have := C0 e1
  subst this
  obtain ⟨e4, _⟩ := ke e3
  rw [e4] at hc ⊢
  refine ⟨aT.move hM e2 e3 hc, fun h => h, fun b hb hbl => ⟨hbl, hb.2.1, fun hw => ?_⟩⟩
  have h3 := hb.2.2 hw
  obtain ⟨wr, ty, k⟩ := h
  cases k <;> try trivial
  rename_i sh R n' hi'
  simp only [HE.av, Bool.and_eq_true] at e2
  have en := aC hM.ag e2.2
  unfold aa at h3 ⊢
  simp only at h3 ⊢
  rw [en] at h3; exact h3
 have rdk : ∀ {x : HE}, x.rd = true → ∀ {k}, x.k = k → k ≠ .dead := fun hx k hk e => by subst hk; rw [HE.rd, e] at hx; cases hx
 obtain ⟨hw, ht, hk⟩ := h
 obtain ⟨cw, ct, ck⟩ := c
 unfold Ou at hi
 simp only at hi
 split at hi
 ·exact ⟨trivial, fun e => by simp [HE.live, HE.rd] at e, fun b hb => by have := hb.2.1; simp [HE.rd] at this⟩
 ·split at hi
  ·rename_i hc'
   simp only [Bool.and_eq_true, beq_iff_eq] at hc'
   obtain ⟨rfl, e2⟩ := hc'
   have e2 := Nat.eq_of_beq_eq_true e2
   subst e2
   obtain ⟨x, vs, h1, h2, h3⟩ := hc
   exact ⟨⟨x, vs, bY hl h1, FU hM hn hi ho h2, h3⟩, fun e => e, fun b hb hbl => ⟨hbl, rfl, fun _ => trivial⟩⟩
  ·cases hi
 ·rename_i sh j j' hi0 sh' R n0 hi0'
  split at hi
  ·rename_i t ht'
   split at hi
   ·rename_i hc'
    simp only [Bool.and_eq_true] at hc'
    obtain ⟨⟨⟨⟨e1, e2⟩, e3⟩, e4⟩, e5⟩ := hc'
    have e2 := Nat.eq_of_beq_eq_true e2
    have e3 := Nat.eq_of_beq_eq_true e3
    subst e2 e3
    cases hi
    have q1 := fU (ρ := ρ) ht'
    rw [aG e4] at q1
    have qI : aa (cJ ρ m θ) (.var j) = aa ρ n0 := (congrArg X.i q1).trans gr.1
    have qR : aU (cJ ρ m θ) (.var j) = aU ρ R := (congrArg X.r q1).trans gr.2
    obtain ⟨A, c', h1, h2, h3, h4, h5, h6, h7, h8⟩ := hc
    have hl' := eZ e5
    have hrow := fun k => dW e5 (aU ρ R) k
    have hwr : hw = true → cw = true := fun e => by subst e; simpa using e1
    refine ⟨⟨A, c', by rw [qI]; exact bY hl h1, by rw [qI]; exact h2, by rw [qI]; exact (iC ho h2 h3).2, by rw [qI]; exact h4, by rw [← hl']; exact h5, by rw [qI, qR]; exact (hrow _).1 h6, fun e => ?_, fun e h0 => ?_⟩, fun e => ?_, fun b hb hbl => ⟨hbl, rfl, fun hcw => ?_⟩⟩
    ·rw [qI, qR, ← (hrow _).2, ← hl']; exact h7 (hwr e)
    ·rw [qI] at h0
     rw [qI, qR, ← (hrow _).2]
     cases hcw : cw
     ·exact h8 hcw h0
     ·have hown := h7 hcw
      rcases hown.2 with ⟨e', _⟩ | ⟨g, cap, cur, e', _⟩
      ·injection e' with _ e'; omega
      ·injection e' with e'
       exact ⟨⟨g, 0, none⟩, e', fun j v hv => by
        subst e'
        exact hown.cells (g := g) rfl _ _ hv⟩
    ·simp only [HE.live, Bool.and_eq_true] at e ⊢
     exact ⟨hwr e.1, rfl⟩
    ·have hne : hw = false := by
      cases hq : hw
      ·rfl
      ·rw [hwr hq] at hcw; cases hcw
     have := hb.2.2 hne
     simp only at this
     rw [qI] at this; exact this
   ·cases hi
  ·split at hi
   ·rename_i hc'; exact same hc'
   ·cases hi
 ·rename_i s j hi0 s' q hi1
  split at hi
  ·rename_i t ht'
   split at hi
   ·rename_i hc'
    simp only [Bool.and_eq_true, beq_iff_eq, decide_eq_true_eq] at hc'
    obtain ⟨⟨⟨⟨rfl, e4⟩, e5⟩, e6⟩, rfl⟩ := hc'
    have e5 := aG e5
    subst e5
    have q1 := fU (ρ := ρ) ht'
    rw [aG e4] at q1
    have qI : aa (cJ ρ m θ) (.var j) = aa ρ q := (congrArg X.i q1).trans gd
    have qs : ev (cJ ρ m θ) s = ev ρ s := aC hM.ag e6
    obtain ⟨h0, L, str, h1, h2⟩ := hc
    refine ⟨⟨h0, L, str, bY hl h1, ?_⟩, fun e => e, fun b hb hbl => ⟨hbl, rfl, fun _ => trivial⟩⟩
    rw [qI]
    unfold aa at h2 ⊢
    rw [qs]; exact h2
   ·cases hi
  ·split at hi
   ·rename_i hc'; exact same hc'
   ·cases hi
 ·rename_i j j' hi0 R n0 hi1
  split at hi
  ·rename_i t ht'
   split at hi
   ·rename_i hc'
    simp only [Bool.and_eq_true, beq_iff_eq] at hc'
    obtain ⟨⟨rfl, e3⟩, e4⟩ := hc'
    have e3 := Nat.eq_of_beq_eq_true e3
    subst e3
    cases hi
    have q1 := fU (ρ := ρ) ht'
    rw [aG e4] at q1
    have qI : aa (cJ ρ m θ) (.var j) = aa ρ n0 := (congrArg X.i q1).trans gr.1
    have qR : aU (cJ ρ m θ) (.var j) = aU ρ R := (congrArg X.r q1).trans gr.2
    obtain ⟨h0, L, es, clock, h1, h2, h3, h4, h5, h6, h7⟩ := hc
    refine ⟨⟨h0, L, es, clock, bY hl h1, h2, h3, ?_⟩, fun e => e, fun b hb hbl => ⟨hbl, rfl, fun _ => trivial⟩⟩
    rw [qI, qR]
    exact ⟨h4, (iC ho h4 h5).2, h6, h7⟩
   ·cases hi
  ·split at hi
   ·rename_i hc'; exact same hc'
   ·cases hi
 ·rename_i l1 l2
  split at hi
  ·rename_i hc'
   simp only [Bool.and_eq_true, beq_iff_eq, Bool.or_eq_true] at hc'
   obtain ⟨⟨⟨rfl, e2⟩, e3⟩, e4⟩ := hc'
   have e2 := Nat.eq_of_beq_eq_true e2
   have e4 := Nat.eq_of_beq_eq_true e4
   subst e2 e4
   obtain ⟨h0, L, vs, cs, h1, hx, h2⟩ := hc
   have hl1 : l1 < n := by
    rcases e3 with e3 | e3
    ·exact (ke e3).2
    ·exact hn _ e3
   exact ⟨⟨h0, L, vs, cs, bY hl h1, bY hl1 hx, h2.1, h2.2.1, h2.2.2.1, fun j _ => h2.2.2.2 j fun e he => by cases he⟩, fun e => e, fun b hb hbl => ⟨hbl, rfl, fun _ => trivial⟩⟩
  ·cases hi
 ·rename_i K j s hi0 K' Q s' hi1
  split at hi
  ·rename_i t ht'
   split at hi
   ·rename_i hc'
    simp only [Bool.and_eq_true, beq_iff_eq, decide_eq_true_eq] at hc'
    obtain ⟨⟨⟨⟨⟨rfl, e2⟩, e3⟩, e4⟩, e5⟩, e6⟩ := hc'
    have e2 := Nat.eq_of_beq_eq_true e2
    have e3 := Nat.eq_of_beq_eq_true e3
    subst e2 e3
    have q1 := fU (ρ := ρ) ht'
    rw [aG e4] at q1
    have qR : aU (cJ ρ m θ) (.var j) = aU ρ Q := congrArg X.r q1
    obtain ⟨k1, k2⟩ := Bb e5
    obtain ⟨h0, vs, h1, h2, h3, h4⟩ := hc
    refine ⟨⟨h0, vs, bY hl h1, h2, fun i hi' => ?_, h4⟩, fun e => e, fun b hb hbl => ⟨hbl, rfl, fun _ => trivial⟩⟩
    obtain ⟨A, n', c', g1, g2, g3, g4, g5⟩ := h3 i hi'
    rw [qR]
    refine ⟨A, n', c', g1, g2, by omega, fun k hk => k1 _ (g4 k hk), ?_⟩
    have : H0 s (aU ρ Q) i n' = H0 s' (aU ρ Q) i n' := by
     unfold H0
     exact List.map_congr_left fun k _ => (k2 _).symm
    rw [this]; exact g5
   ·cases hi
  ·split at hi
   ·rename_i hc'; exact same hc'
   ·cases hi
 ·rename_i t lo j D t' lo' R D'
  split at hi
  ·rename_i u ht'
   split at hi
   ·rename_i hc'
    simp only [Bool.and_eq_true, beq_iff_eq, decide_eq_true_eq] at hc'
    obtain ⟨⟨⟨⟨⟨⟨⟨rfl, e2⟩, e3⟩, e4⟩, e5⟩, e6⟩, e7⟩, e8⟩ := hc'
    have e2 := Nat.eq_of_beq_eq_true e2
    have e3 := Nat.eq_of_beq_eq_true e3
    have e5 := aG e5
    subst e2 e3 e5
    have q1 : (ev (cJ ρ m θ) (.var j)).x = _ := fU (ρ := ρ) ht'
    rw [aG e4] at q1
    obtain ⟨v, vs, h1, h2, h3⟩ := hc
    refine ⟨⟨v, vs, bY hl h1, rN hn e7 e8 h2, ?_⟩, fun e => e, fun b hb hbl => ⟨hbl, rfl, fun _ => trivial⟩⟩
    show nn (cJ ρ m θ).o _ _ _ _ _ _ ((ev (cJ ρ m θ) (.var j)).x :: (ev (cJ ρ m θ) D).l)
    rw [q1, aC hM.ag e6]
    exact h3
   ·cases hi
  ·split at hi
   ·rename_i hc'; exact same hc'
   ·cases hi
 ·rename_i t lo t' lo'
  split at hi
  ·rename_i hc'
   simp only [Bool.and_eq_true, beq_iff_eq, decide_eq_true_eq] at hc'
   obtain ⟨⟨⟨⟨rfl, e2⟩, e3⟩, e7⟩, e8⟩ := hc'
   have e2 := Nat.eq_of_beq_eq_true e2
   have e3 := Nat.eq_of_beq_eq_true e3
   subst e2 e3
   obtain ⟨v, vs, h1, h2, h3⟩ := hc
   exact ⟨⟨v, vs, bY hl h1, rN hn e7 e8 h2, h3⟩, fun e => e, fun b hb hbl => ⟨hbl, rfl, fun _ => trivial⟩⟩
  ·cases hi
 ·split at hi
  ·rename_i hc'; exact same hc'
  ·cases hi
theorem FV : ∀ {h : SH} {l : Nat} {bg : List E}, Ov (cB n mv) m mv θ hp h l = some bg → ∀ (i : Nat) (x : HE), h[i]? = some x → ∃ c o, hp[sig mv (l + i)]? = some c ∧ Ou (cB n mv) m mv θ (l + i) x c = some o ∧ ∀ e ∈ o, e ∈ bg
 | [], _, _, _, i, x, hx => by simp at hx
 | y :: r, l, bg, hi, i, x, hx => by
  simp only [Ov] at hi
  split at hi
  ·rename_i c hc
   split at hi
   ·rename_i p q hp' hq
    cases hi
    cases i with
    | zero => simp at hx; subst hx; exact ⟨c, p, hc, hp', fun e he => by simp [he]⟩
    | succ i =>
     simp at hx
     obtain ⟨c', o, h1, h2, h3⟩ := FV hq i x hx
     rw [show l + 1 + i = l + (i + 1) by omega] at h1 h2
     exact ⟨c', o, h1, h2, fun e he => by simp [h3 e he]⟩
   ·cases hi
  ·cases hi
theorem inst_ok {h c : St} {bg : List E} (hi : inst m mv θ h c = some bg) (ho : ∀ e ∈ bg, al ρ e = true) (hmv : ∀ x ∈ mv, x.1 < h.hp.length) (hr : aX ρ ls c.tm a) (hh : aB ρ B w0 ls c.hp w) :
 bR (cB h.hp.length mv) m ρ (cJ ρ m θ) ls (eb ls mv h.hp.length) ∧ aX (cJ ρ m θ) (eb ls mv h.hp.length) h.tm a ∧ aB (cJ ρ m θ) B w0 (eb ls mv h.hp.length) h.hp w := by
 unfold inst at hi
 split at hi
 ·rename_i hc
  simp only [Bool.and_eq_true] at hc
  obtain ⟨hn, hnd⟩ := hc
  have hn := Nat.eq_of_beq_eq_true hn
  split at hi
  ·rename_i p q hp hq
   cases hi
   have bA := fun i x hx => FV hq i x hx
   simp only [Nat.zero_add] at bA
   have hlen : ∀ l, l < h.hp.length → sig mv l < ls.length := fun l hl => by
    obtain ⟨c', _, h1, _⟩ := bA l _ (List.getElem?_eq_getElem hl)
    rw [hh.len]; exact (List.getElem?_eq_some_iff.1 h1).1
   have hM := FR (m := m) (ρ := ρ) (θ := θ) hlen
   have hnm : ∀ l, mv.any (fun x => Nat.beq x.1 l) = true → l < h.hp.length := fun l hl => by
    obtain ⟨x, hx, he⟩ := List.any_eq_true.1 hl
    rw [← Nat.eq_of_beq_eq_true he]; exact hmv x hx
   refine ⟨hM, ⟨hn.trans hr.1, fun d t hd ht => BB hM hnm hr hp (by omega) (fun e he => ho e (by simp [he])) d t hd ht⟩, ?_⟩
   have one : ∀ (i : Nat) (x : HE), h.hp[i]? = some x → ∃ c', c.hp[sig mv i]? = some c' ∧ aT (cJ ρ m θ) B w (eb ls mv h.hp.length) i x ∧ (x.live = true → c'.live = true) ∧ ∀ b, bn (cJ ρ m θ) (eb ls mv h.hp.length) i x b → eK ls[sig mv i]? b → bn ρ ls (sig mv i) c' b := fun i x hx => by
    obtain ⟨c', o, h1, h2, h3⟩ := bA i x hx
    have hil : i < h.hp.length := (List.getElem?_eq_some_iff.1 hx).1
    exact ⟨c', h1, Mf hM hnm hil h2 (fun e he => ho e (by simp [h3 e he])) (hh.bA _ _ h1)⟩
   have ji : ∀ {i : Nat}, i < h.hp.length → (eb ls mv h.hp.length)[i]? = ls[sig mv i]? := fun {i} hi => by
    have h3 := hlen i hi
    rw [bY hi (List.getElem?_eq_getElem h3), List.getElem?_eq_getElem h3]
   exact {
    below := hh.below
    base := hh.base
    len := by simp [eb]
    cS := hh.cS
    bA := fun i x hx => by obtain ⟨_, _, h2, _⟩ := one i x hx; exact h2
    inj := fun i j x y b hx hy lx bi bj => by
     obtain ⟨x', hx', _, lx', _⟩ := one i x hx
     obtain ⟨y', hy', _, _, by'⟩ := one j y hy
     have hil : i < h.hp.length := (List.getElem?_eq_some_iff.1 hx).1
     have hjl : j < h.hp.length := (List.getElem?_eq_some_iff.1 hy).1
     have e := hh.inj (sig mv i) (sig mv j) x' y' b hx' hy' (lx' lx) (by rw [← ji hil]; exact bi) (by' b bj (by rw [← ji hjl]; exact bj.1))
     exact tS hnd (i := i) (j := j) (x := sig mv i) (by rw [List.getElem?_map, List.getElem?_range hil]; rfl) (by rw [List.getElem?_map, List.getElem?_range hjl, e]; rfl) }
  ·cases hi
 ·cases hi
end
def dV.get (tm : aw) (hp : SH) : dV → Option SC
 | .tmp d => (match tm.get d with | some ⟨g, .c s⟩ => if lJ g then some s else none | _ => none)
 | .part d j => (match tm.get d with | some ⟨g, .agg l⟩ => if lJ g then l[j]? else none | _ => none)
 | .cell l j => (match hp[l]? with | some ⟨_, _, .cells cs⟩ => cs[j]? | some ⟨_, _, .iter _ q hi⟩ => some (.int .i64 q 0 hi) | _ => none)
 | .ex _ => none
 | .own l => (match hp[l]? with | some ⟨_, _, .row ..⟩ => some (.ow l) | some ⟨_, _, .lb ..⟩ => some (.mp l) | some ⟨_, _, .abs ..⟩ => some (.gl l 0) | _ => none)
 | .ind d j => (match tm.get d with | some ⟨g, .c (.ptr l o)⟩ => if lJ g then (match hp[l]? with | some ⟨_, _, .cells cs⟩ => cs[o + j]? | _ => none) else none | _ => none)
 | .mS _ => none
 | .LI _ => none
 | .KV _ => none
def dV.put (s : SC) : dV → aw × SH → Option (aw × SH)
 | .tmp d, (tm, hp) => some (bB tm (some d) ⟨.bc true, .c s⟩, hp)
 | .part d j, (tm, hp) => (match tm.get d with | some ⟨g, .agg l⟩ => some (bB tm (some d) ⟨g, .agg (l.set j s)⟩, hp) | _ => none)
 | .cell l j, (tm, hp) => (match hp[l]? with | some ⟨b, ty, .cells cs⟩ => some (tm, hp.set l ⟨b, ty, .cells (cs.set j s)⟩) | _ => none)
 | .ex _, _ => none
 | .own l, (tm, hp) => (match s with | .ow l' => if Nat.beq l l' then some (tm, hp) else none | _ => none)
 | _, _ => none
def dV.NO (s : SC) (x : dV) (t : aw × SH) : Option (aw × SH) := match x, t with
 | .ind d j, (tm, hp) => (match tm.get d with | some ⟨_, .c (.ptr l o)⟩ => (match hp[l]? with | some ⟨b, ty, .cells cs⟩ => some (tm, hp.set l ⟨b, ty, .cells (cs.set (o + j) s)⟩) | _ => none) | _ => none)
 | .cell l j, (tm, hp) => (match hp[l]?, s with
  | some ⟨b, ty, .iter a _ hi⟩, .int _ q _ _ => some (tm, hp.set l ⟨b, ty, .iter a q hi⟩)
  | _, _ => dV.put s (.cell l j) (tm, hp))
 | x, t => dV.put s x t
def dV.JE : dV → Bool
 | .own _ => true
 | _ => false
def px (x : dV × TypeId × List Sk × Int) (s : aw × SH) : Option (aw × SH) :=
 match x.1.get s.1 s.2 with
 | some (.ow l) => if x.1.JE then some s else (match s.2[l]? with
  | some ⟨false, _, .row sh R n hi⟩ => x.1.put (.ow s.2.length) (s.1, s.2 ++ [⟨false, x.2.1, .row sh R n hi⟩])
  | some ⟨true, ty, .grow sz cs⟩ => (match mV x.2.2.1 [] cs with
   | some es => if Nat.beq sz x.2.2.1.length && decide (((cs.length / sz : Nat) : Int) ≤ x.2.2.2) then some (s.1, s.2.set l ⟨true, ty, .row x.2.2.1 (.bE x.2.2.1.length (aL es)) (.ic (cs.length / sz : Nat)) x.2.2.2⟩) else some s
   | none => some s)
  | _ => some s)
 | some (.di (.slice none 0 0)) => if decide (0 < x.2.2.1.length) && decide (0 ≤ x.2.2.2) then x.1.put (.ow s.2.length) (s.1, s.2 ++ [⟨true, x.2.1, .row x.2.2.1 (.bE 1 .nil) (.ic 0) x.2.2.2⟩]) else none
 | _ => none
def zu : SC → Bool
 | .di (.slice none 0 0) => true
 | _ => false
def Fw (x : dV × TypeId × List Sk × Int) (s : aw × SH) : Option (aw × SH) :=
 match x with
 | (.mS l, ty, [sk], hi) => (match s.2[l]? with
  | some ⟨true, ty', .cells cs⟩ => if cs.all zu && decide (0 ≤ hi) then some (s.1, s.2.set l ⟨true, ty', .lg s.2.length none⟩ ++ [⟨true, ty, .mS cs.length (.kY .nil) sk hi⟩]) else none
  | some ⟨_, _, .lg _ none⟩ => some s
  | some ⟨_, _, .abs _ [_] _⟩ => some s
  | _ => none)
 | (.own l, _, _, _) => (match s.2[l]? with | some ⟨_, _, .lb ..⟩ => some s | some ⟨_, _, .abs ..⟩ => some s | _ => px x s)
 | _ => px x s
def jG : List (dV × TypeId × List Sk × Int) → aw × SH → Option (aw × SH)
 | [], s => some s
 | x :: r, s => (match Fw x s with | some s' => jG r s' | none => none)
def JF : List Oper → aw → aw
 | [], tm => tm
 | o :: r, tm => JF r (bB tm o.dst gw)
def oi : Code → aw → aw
 | .seq a b, tm => oi b (oi a tm)
 | .cond _ a b, tm => oi b (oi a tm)
 | .block _ c, tm => oi c tm
 | .loop c, tm => oi c tm
 | .scope c, tm => oi c tm
 | .region _ ops _, tm => JF ops.toList tm
 | _, tm => tm
def zG (s1 : aw × SH) : List (dV × Int × Int) → Nat → aw × SH → Option (aw × SH)
 | [], _, s => some s
 | (x, lo, hi) :: r, j, s => (match x.get s1.1 s1.2 with
  | some (.int k _ _ _) => (match x.NO (.int k (.var j) lo hi) s with | some s' => zG s1 r (j + 1) s' | none => none)
  | some (.bool _) => (match x.NO (.bool (.var j)) s with | some s' => zG s1 r (j + 1) s' | none => none)
  | _ => none)
def nK (s1 : aw × SH) : List (dV × TypeId × List Sk × Int) → Nat → aw × SH → Option (aw × SH)
 | [], _, s => some s
 | (.mS l, _, _, _) :: r, j, s => (match s.2[l]? with
  | some ⟨_, _, .lg l2 _⟩ => (match s.2[l2]? with
   | some ⟨b, ty, .mS K _ sk hi⟩ => nK s1 r (j + 1) (s.1, s.2.set l2 ⟨b, ty, .mS K (.var j) sk hi⟩)
   | _ => none)
  | some ⟨_, _, .abs _ [l2] _⟩ => (match s.2[l2]? with
   | some ⟨b, ty, .abs t lo (.cons _ D)⟩ => nK s1 r (j + 1) (s.1, s.2.set l2 ⟨b, ty, .abs t lo (.cons (.var j) D)⟩)
   | _ => none)
  | _ => none)
 | (x, _, sh, hi) :: r, j, s => (match x.get s1.1 s1.2 with
  | some (.mp l) => (match s.2[l]? with
   | some ⟨b, ty, .lb ..⟩ => nK s1 r (j + 1) (s.1, s.2.set l ⟨b, ty, .lb (.var j) (.var j) hi⟩)
   | _ => none)
  | some (.gl l _) => (match s.2[l]? with
   | some ⟨b, ty, .abs t lo (.cons _ D)⟩ => nK s1 r (j + 1) (s.1, s.2.set l ⟨b, ty, .abs t lo (.cons (.var j) D)⟩)
   | _ => none)
  | some (.ow l) => (match s.2[l]? with
   | some ⟨b, ty, .row ..⟩ => (match x.put (.ow l) (s.1, s.2.set l ⟨b, ty, .row sh (.var j) (.var j) hi⟩) with | some s' => nK s1 r (j + 1) s' | none => none)
   | _ => none)
  | _ => none)
def zH (s : aw × SH) : List (dV × Int × Int) → Option (List E)
 | [] => some []
 | (x, _, _) :: r => (match x.get s.1 s.2, zH s r with
  | some (.int _ e _ _), some l => some (fB e :: l)
  | some (.bool e), some l => some (qL e :: l)
  | _, _ => none)
def zI (h s : aw × SH) : List (dV × TypeId × List Sk × Int) → Option (List E × List (Nat × Nat))
 | [] => some ([], [])
 | (.mS l, _, _, _) :: r => (match h.2[l]?, s.2[l]?, zI h s r with
  | some ⟨_, _, .lg l2 _⟩, some ⟨_, _, .lg l3 _⟩, some (es, mv) => (match s.2[l3]? with
   | some ⟨_, _, .mS _ Q _ _⟩ => some (Q :: es, (l2, l3) :: mv)
   | _ => none)
  | some ⟨_, _, .abs _ [l2] _⟩, some ⟨_, _, .abs _ [l3] _⟩, some (es, mv) => (match s.2[l3]? with
   | some ⟨_, _, .abs _ _ (.cons R _)⟩ => some (R :: es, (l2, l3) :: mv)
   | _ => none)
  | _, _, _ => none)
 | (x, _, _, _) :: r => (match x.get h.1 h.2, x.get s.1 s.2, zI h s r with
  | some (.mp _), some (.mp l'), some (es, mv) => (match s.2[l']? with
   | some ⟨_, _, .lb R n _⟩ => some (gq R n :: es, mv)
   | _ => none)
  | some (.gl _ _), some (.gl l' _), some (es, mv) => (match s.2[l']? with
   | some ⟨_, _, .abs _ _ (.cons R _)⟩ => some (R :: es, mv)
   | _ => none)
  | some (.ow l), some (.ow l'), some (es, mv) => (match s.2[l']? with
   | some ⟨_, _, .row _ R n _⟩ => some (gq R n :: es, if x.JE then mv else (l, l') :: mv)
   | _ => none)
  | _, _, _ => none)
def xE (s : aw × SH) : List dV → Option (List E)
 | [] => some []
 | .ex e :: r => (match xE s r with | some l => some (e :: l) | none => none)
 | .LI _ :: r => xE s r
 | .KV _ :: r => xE s r
 | x :: r => (match x.get s.1 s.2, xE s r with
  | some (.int _ e _ _), some l => some (fB e :: l)
  | some (.bool e), some l => some (qL e :: l)
  | some (.ow l'), some l => (match s.2[l']? with
   | some ⟨_, _, .row _ R n _⟩ => some (gq R n :: l)
   | _ => none)
  | some (.mp l'), some l => (match s.2[l']? with
   | some ⟨_, _, .lb R n _⟩ => some (gq R n :: l)
   | _ => none)
  | some (.gl l' _), some l => (match s.2[l']? with
   | some ⟨_, _, .abs _ _ (.cons R _)⟩ => some (R :: l)
   | _ => none)
  | some (.str e _), some l => some (e :: l)
  | _, _ => none)
def FW (h s : aw × SH) : List dV → Option (List (Nat × Nat))
 | [] => some []
 | .LI d :: r => (match h.1.get d, s.1.get d, FW h s r with
  | some ⟨_, .c (.ptr l _)⟩, some ⟨_, .c (.ptr l' _)⟩, some mv => some ((l, l') :: mv)
  | _, _, _ => none)
 | _ :: r => FW h s r
def xF (s1 : aw × SH) : List dV → aw × SH → aw × SH
 | [], s => s
 | .LI d :: r, s => (match s1.1.get d with | some t => xF s1 r (bB s.1 (some d) t, s.2) | none => xF s1 r s)
 | .KV d :: r, s => xF s1 r (bB s.1 (some d) gw, s.2)
 | _ :: r, s => xF s1 r s
def JG (h s : aw × SH) (L : ba) : Option (List E × List (Nat × Nat)) := match zI h s L.rows, FW h s L.extra with
 | some (u, mv), some mv' => some (u, mv ++ mv')
 | _, _ => none
def CH : Nat → Nat → List E
 | _, 0 => []
 | j, n + 1 => .var j :: CH (j + 1) n
def L5 : Nat → Nat → Fm → Fm
 | _, 0, f => f
 | j, n + 1, f => .all j (L5 (j + 1) n f)
structure Hd where
 s1 : St
 h : St
 θ : List E
 mv : List (Nat × Nat)
 A : List E
def ba.k (L : ba) : Nat := L.vars.length + L.rows.length
def NP : SV → Bool
 | .c (.ow _) => true
 | .c (.ptr _ _) => true
 | _ => false
def Mg : SV → Bool
 | .eJ _ => true
 | _ => false
def JH (p : Nat → Bool) (m : Nat) (tm : aw) : aw := ⟨tm.n, tm.t.map fun t => if (t.av p m && !Mg t.v) || (t.av (fun _ => true) m && NP t.v) then t else gw⟩
def NQ (m : Nat) (hp : SH) : SH := hp.map fun x => if HE.av (fun _ => true) m x then x else ⟨x.wr, x.ty, .dead⟩
def NR (m : Nat) (hp : SH) : SH := hp.map fun x => match x.k with
 | .cells cs => ⟨x.wr, x.ty, .cells (cs.map fun c => if SC.av (fun _ => true) m c then c else .kW)⟩
 | .grow _ cs => if cs.all (SC.av (fun _ => true) m) then x else ⟨x.wr, x.ty, .dead⟩
 | _ => x
def vx (L : ba) (c : Code) (s : St) : Option Hd :=
 match jG L.rows (s.tm, s.hp) with
 | some s1 => (match zG s1 L.vars L.m (xF s1 L.extra (JH (fun _ => true) L.m (oi c s1.1), NR L.m s1.2)) with
  | some h1 => (match nK s1 L.rows (L.m + L.vars.length) h1 with
   | some h => (match zH s1 L.vars, JG h s1 L, xE s1 L.extra with
    | some t, some (u, mv), some A => some ⟨⟨s1.1, s1.2, s.neg⟩, ⟨JH (cB h.2.length mv) (L.m + L.k) h.1, NQ (L.m + L.k) h.2, s.neg.filter (E.eB L.m)⟩, t ++ u, mv, A⟩
    | _, _, _ => none)
   | none => none)
  | none => none)
 | none => none
end Vc
end Go.Proofs.YtpmfkelglmgddaaGreatDoor
namespace Go.Proofs.YtpmfkelglmgddaaGreatDoor
namespace Vc
open Go Go.RowKit
set_option linter.unusedVariables false
def xG : List Sk → List SC → Option (List Sk × List E)
 | [], [] => some ([], [])
 | s :: sh, c :: cs => (match j5 s c, xG sh cs with
  | some (s', e), some (sh', es) => some (s' :: sh', e :: es)
  | _, _ => none)
 | _, _ => none
theorem nL : ∀ {sh : List Sk} {cs : List SC} {sh' : List Sk} {es : List E}, xG sh cs = some (sh', es) → sh'.length = sh.length ∧ cs.length = sh.length ∧
 ∀ (k : Nat) (s' : Sk), sh'[k]? = some s' → ∃ s c e, sh[k]? = some s ∧ cs[k]? = some c ∧ es[k]? = some e ∧ j5 s c = some (s', e)
 | [], [], _, _, h => by cases h; exact ⟨rfl, rfl, fun k s' hk => by simp at hk⟩
 | s :: sh, c :: cs, sh', es, h => by
  simp only [xG] at h
  split at h
  ·rename_i s1 e1 sh1 es1 hm hr
   cases h
   obtain ⟨h1, h2, h3⟩ := nL hr
   refine ⟨by simp [h1], by simp [h2], fun k s' hk => ?_⟩
   cases k with
   | zero => simp at hk; subst hk; exact ⟨s, c, e1, rfl, rfl, rfl, hm⟩
   | succ k => simp at hk; simpa using h3 k s' hk
  ·cases h
 | [], _ :: _, _, _, h => by cases h
 | _ :: _, [], _, _, h => by cases h
def vG (P : Program) (hp : SH) (t : TypeId) (x y : SV) : Option SH :=
 match P.underlying t with
 | some (.slice el) => (match P.info? el with
  | some ie => (match ie.zero with
   | some z => if 0 < ie.size ∧ z.cells.size = ie.size then (match nj hp ie.size y with
    | some (1, _, news) => (match x with
     | .c (.ow l) => (match hp[l]? with
      | some ⟨true, ty, .row sh R n hi⟩ => if ty = el ∧ sh.length = ie.size ∧ hi + 1 ≤ 1000000000 ∧ (hi + 1) * ie.bytes ≤ 140737488355328 then (match xG sh news with
       | some (sh', es) => some (hp.set l ⟨true, ty, .dead⟩ ++ [⟨true, el, .row sh' (.eo R n (.bE ie.size (aL es))) (oK n (.ic 1)) (hi + 1)⟩])
       | none => none) else none
      | _ => none)
     | _ => none)
    | _ => none) else none
   | none => none)
  | none => none)
 | _ => none
section
variable {P : Program} {ρ : Env} {B : Nat} {w0 w : World} {ls : Ls} {hp : SH} {tm : aw} {a : Act} {G : E} {cf : a8}
theorem FX {sh sh' : List Sk} {cs : List SC} {es : List E} {vs : List Value} {R n : E} {sz : Nat} (hm : xG sh cs = some (sh', es)) (hr : ai (RS ρ ls) cs vs) (hsz : sh.length = sz) (h0 : 0 ≤ aa ρ n) (dZ : au sh (aU ρ R) (aa ρ n).toNat) :
 au sh' (aU ρ (.eo R n (.bE sz (aL es)))) ((aa ρ n).toNat + 1) ∧ aO sh' (aU ρ (.eo R n (.bE sz (aL es)))) ((aa ρ n).toNat + 1) = aO sh (aU ρ R) (aa ρ n).toNat ++ vs := by
 obtain ⟨l1, l2, get⟩ := nL hm
 have hlv := hr.len
 have jW : ∀ i : Nat, i < (aa ρ n).toNat → aU ρ (.eo R n (.bE sz (aL es))) i = aU ρ R i := fun i hi => by
  funext p
  exact if_pos (show (i : Int) < aa ρ n by omega)
 have new : ∀ p : Nat, p < sz → aU ρ (.eo R n (.bE sz (aL es))) ((aa ρ n).toNat : Nat) p = ((aM ρ es).getD p (xI 0)).y := fun p hp => by
  show (if (((aa ρ n).toNat : Nat) : Int) < aa ρ n then _ else ((ev ρ (aL es)).l.getD (((((aa ρ n).toNat : Nat) : Int) - aa ρ n).toNat * sz + (p : Int).toNat) (xI 0)).y) = _
  rw [if_neg (by omega), bM, show ((((aa ρ n).toNat : Nat) : Int) - aa ρ n).toNat = 0 by omega, Nat.zero_mul, Nat.zero_add, Int.toNat_natCast]
 have wide : ∀ (k : Nat) (s' : Sk), sh'[k]? = some s' → ∃ s, sh[k]? = some s ∧ (∀ y, iR s' y = iR s y) ∧ ∀ y, dM s y → dM s' y := fun k s' hk => by
  obtain ⟨s, c, e, h1, h2, h3, h4⟩ := get k s' hk
  obtain ⟨v, hv, hrv⟩ := hr.get h2
  obtain ⟨_, _, m3, m4⟩ := nu h4 hrv
  exact ⟨s, h1, m3, m4⟩
 have elw : ∀ f : Int → Y, gk sh' f 0 = gk sh f 0 := fun f => by
  apply List.ext_getElem?
  intro k
  rw [jZ, jZ]
  cases hk : sh'[k]? with
  | none =>
   have : sh[k]? = none := by
    have := List.getElem?_eq_none_iff.1 hk
    exact List.getElem?_eq_none (by omega)
   rw [this]
  | some s' =>
   obtain ⟨s, h1, h2, _⟩ := wide k s' hk
   rw [h1]
   simp only [Option.map_some]
   rw [h2]
 have newv : gk sh' (aU ρ (.eo R n (.bE sz (aL es))) ((aa ρ n).toNat : Nat)) 0 = vs ∧ oF sh' (aU ρ (.eo R n (.bE sz (aL es))) ((aa ρ n).toNat : Nat)) 0 := by
  have each : ∀ (k : Nat) (s' : Sk), sh'[k]? = some s' → ∃ v, vs[k]? = some v ∧ iR s' (aU ρ (.eo R n (.bE sz (aL es))) ((aa ρ n).toNat : Nat) (k : Nat)) = v ∧ dM s' (aU ρ (.eo R n (.bE sz (aL es))) ((aa ρ n).toNat : Nat) (k : Nat)) := fun k s' hk => by
   obtain ⟨s, c, e, h1, h2, h3, h4⟩ := get k s' hk
   obtain ⟨v, hv, hrv⟩ := hr.get h2
   obtain ⟨m1, m2, _, _⟩ := nu h4 hrv
   have hlt : k < sh'.length := (List.getElem?_eq_some_iff.1 hk).1
   have : (aM ρ es).getD k (xI 0) = (ev ρ e).x := by
    rw [List.getD_eq_getElem?_getD]
    show (Option.getD ((es.map fun e => (ev ρ e).x)[k]?) (xI 0)) = _
    rw [List.getElem?_map, h3]; rfl
   rw [new k (by omega), this]
   exact ⟨v, hv, m1, m2⟩
  refine ⟨List.ext_getElem? fun k => ?_, iy fun k s' hk => ?_⟩
  ·rw [jZ]
   cases hk : sh'[k]? with
   | none =>
    have := List.getElem?_eq_none_iff.1 hk
    rw [List.getElem?_eq_none (l := vs) (by omega)]; rfl
   | some s' =>
    obtain ⟨v, h1, h2, _⟩ := each k s' hk
    rw [h1]
    simp only [Option.map_some, Int.zero_add]
    rw [h2]
  ·obtain ⟨v, _, _, h3⟩ := each k s' hk
   rw [Int.zero_add]; exact h3
 refine ⟨fun i hi => ?_, ?_⟩
 ·by_cases hlt : i < (aa ρ n).toNat
  ·rw [jW i hlt]
   refine iy fun k s' hk => ?_
   obtain ⟨s, h1, _, h3⟩ := wide k s' hk
   exact h3 _ (gK (dZ i hlt) h1)
  ·have : i = (aa ρ n).toNat := by omega
   subst this
   exact newv.2
 ·rw [aO, newv.1]
  congr 1
  have : aO sh' (aU ρ (.eo R n (.bE sz (aL es)))) (aa ρ n).toNat = aO sh' (aU ρ R) (aa ρ n).toNat := bQ fun i hi => by rw [jW i hi]
  rw [this]
  have all : ∀ m, aO sh' (aU ρ R) m = aO sh (aU ρ R) m := fun m => by
   induction m with
   | zero => rfl
   | succ m ih => rw [aO, aO, ih, elw]
  exact all _
theorem zJ {t ty : TypeId} {x y : SV} {u v : Value} {hp' : SH} (h : vG P hp t x y = some hp') (hh : aB ρ B w0 ls hp w) (hx : RV ρ ls x u) (hy : RV ρ ls y v) :
 ∃ z w', (Builtin.append_ #[t, t] ty #[u, v]).run P w = .ok z w' ∧ aB ρ B w0 (ls ++ [z]) hp' w' ∧ ∃ A n c, z = .slice A n c := by
 unfold vG at h
 split at h
 ·rename_i el ht
  split at h
  ·rename_i ie hie
   split at h
   ·rename_i zv hzv
    split at h
    ·rename_i hif
     obtain ⟨h0, hzs⟩ := hif
     split at h
     ·rename_i l2 news hnews
      obtain ⟨a, c, vs, rfl, n1, n2, n3, n4⟩ := nm hnews hh hy
      split at h
      ·rename_i l
       split at h
       ·rename_i ty' sh R n hi hl
        split at h
        ·rename_i hb
         obtain ⟨rfl, hsh, hb1, hb2⟩ := hb
         split at h
         ·rename_i sh' es hm
          cases h
          obtain ⟨g1, _⟩ := hx
          obtain ⟨A, c', e1, e2, e3, e4, e5, e6, e7, _⟩ := hh.bA l _ hl
          rw [g1] at e1; cases e1
          have hown := e7 rfl
          rw [hsh] at hown
          have hN : ((aa ρ n).toNat : Int) = aa ρ n := by omega
          have hb2' : ((aa ρ n).toNat + 1) * ie.bytes ≤ 140737488355328 := by
           have h1 : (((aa ρ n).toNat + 1 : Nat) : Int) ≤ hi + 1 := by omega
           have h2 : (((aa ρ n).toNat + 1 : Nat) : Int) * (ie.bytes : Int) ≤ (hi + 1) * ie.bytes := Int.mul_le_mul_of_nonneg_right h1 (by omega)
           have h3 : ((((aa ρ n).toNat + 1) * ie.bytes : Nat) : Int) = (((aa ρ n).toNat + 1 : Nat) : Int) * (ie.bytes : Int) := by simp
           omega
          obtain ⟨v', w', r1, r2, r3, r4, r5⟩ := run_append_own_at (P := P) w B t ty ty' ie zv ie.size ie.bytes ht hie hzv rfl rfl hzs h0 _ _ _ hown a 1 c vs (by rw [n2]) n3 n4 (by simp only [maxLen]; omega) hb2' hh.size
          obtain ⟨A', c2, rfl⟩ := eL r2
          obtain ⟨q1, q2⟩ := FX (sz := ie.size) hm n1 hsh e2 e6
          have hn' : aa ρ (oK n (.ic 1)) = aa ρ n + 1 := me ρ n (.ic 1)
          have hn2 : (aa ρ (oK n (.ic 1))).toNat = (aa ρ n).toNat + 1 := by rw [hn']; omega
          have hl1 := (nL hm).1
          have hcap : (aa ρ n).toNat + 1 ≤ c2 := by
           rcases r2.2 with ⟨e, _⟩ | ⟨g, cap, cur, e, _, _, hc, _⟩
           ·injection e with _ e; omega
           ·injection e with _ _ e; omega
          refine ⟨_, w', r1, hh.grown hl rfl g1 r3 iF iF r5 ⟨A', c2, by rw [hn2]; simp, by rw [hn']; omega, by rw [hn']; omega, by rw [hn2]; exact hcap, by rw [hl1, hsh]; exact h0, by rw [hn2]; exact q1, fun _ => ?_, fun e => by cases e⟩, A', _, c2, rfl⟩
          rw [hn2, q2, hl1, hsh]; exact r2
         ·cases h
        ·cases h
       ·cases h
      ·cases h
     ·cases h
    ·cases h
   ·cases h
  ·cases h
 ·cases h
end
def FY : Sk → Sk → Option Sk
 | .int k a b, .int k' c d => if k = k' then some (.int k (min a c) (max b d)) else none
 | .bool, .bool => some .bool
 | .p8, .p8 => some .p8
 | .str a, .str b => some (.str (max a b))
 | _, _ => none
def IQ : List Sk → List Sk → Option (List Sk)
 | [], [] => some []
 | a :: r, b :: s => (match FY a b, IQ r s with | some x, some y => some (x :: y) | _, _ => none)
 | _, _ => none
theorem BC {a b c : Sk} (h : FY a b = some c) : w7 a c = true ∧ w7 b c = true := by
 cases a <;> cases b <;> simp [FY] at h
 ·obtain ⟨rfl, rfl⟩ := h
  simp [w7]; omega
 ·subst h; exact ⟨rfl, rfl⟩
 ·subst h; exact ⟨rfl, rfl⟩
 ·subst h; simp [w7]; omega
theorem BD : ∀ {a b c : List Sk}, IQ a b = some c → iw a c = true ∧ iw b c = true
 | [], [], c, h => by cases h; exact ⟨rfl, rfl⟩
 | x :: r, y :: s, c, h => by
  simp only [IQ] at h
  split at h
  ·rename_i z t h1 h2
   cases h
   obtain ⟨i1, i2⟩ := BC h1
   obtain ⟨j1, j2⟩ := BD h2
   exact ⟨by simp only [iw, Bool.and_eq_true]; exact ⟨i1, j1⟩, by simp only [iw, Bool.and_eq_true]; exact ⟨i2, j2⟩⟩
  ·cases h
 | [], _ :: _, _, h => by cases h
 | _ :: _, [], _, h => by cases h
def Ri : SC → Option Sk
 | .int k _ lo hi => some (.int k lo hi)
 | .bool _ => some .bool
 | .str _ h => some (.str h)
 | .di (.string s) => some (.str s.size)
 | _ => none
def QN : List SC → Option Sk
 | [] => none
 | [c] => Ri c
 | c :: r => (match Ri c, QN r with | some a, some b => FY a b | _, _ => none)
def rowOf (hp : SH) : SC → Option (List Sk × E × E × Int)
 | .ow l => (match hp[l]? with
  | some ⟨_, _, .row sh R n hi⟩ => some (sh, R, n, hi)
  | some ⟨_, _, .grow 1 cs⟩ => (match QN cs with
   | some s => (match mV [s] [] cs with | some es => some ([s], .bE 1 (aL es), .ic (cs.length : Nat), (cs.length : Nat)) | none => none)
   | none => none)
  | _ => none)
 | .sl l z lo n hi => (match hp[l]? with
  | some ⟨_, _, .row sh R _ _⟩ => if z == sh.length then some (sh, .tj R lo, n, hi) else none
  | _ => none)
 | .sc l off n _ => (match hp[l]? with
  | some ⟨_, _, .cells cs⟩ => if off + n ≤ cs.length then (match QN ((cs.drop off).take n) with
   | some s => (match mV [s] [] ((cs.drop off).take n) with | some es => some ([s], .bE 1 (aL es), .ic n, n) | none => none)
   | none => none) else none
  | _ => none)
 | _ => none
def kz : List Value → Option (List Sk × List E)
 | [] => some ([], [])
 | .int k n :: r => (match kz r with | some (s, e) => some (.int k n n :: s, .ic n :: e) | none => none)
 | .bool b :: r => (match kz r with | some (s, e) => some (.bool :: s, .bc b :: e) | none => none)
 | .string t :: r => (match kz r with | some (s, e) => some (.str t.size :: s, .cs t :: e) | none => none)
 | _ :: _ => none
def FZ (P : Program) (hp : SH) (t : TypeId) (x y : SV) : Option (SH × List E) :=
 match P.underlying t, x, y with
 | some (.slice el), .c (.int _ n lo hi), .c (.int _ n' _ _) => if aY n n' then (match P.info? el with
  | some ie => (match ie.zero with
   | some z => (match kz z.cells.toList with
    | some (sh, es) => if 0 < ie.size ∧ z.cells.size = ie.size ∧ ie.bytes ≤ 100000 then some (hp ++ [⟨true, el, .row sh (.kY (aL es)) n (min hi 1000000000)⟩], (if 0 ≤ lo then [] else [.le (.ic 0) n]) ++ (if hi ≤ 1000000000 then [] else [.le n (.ic 1000000000)])) else none
    | none => none)
   | none => none)
  | none => none) else none
 | _, _, _ => none
def zK (P : Program) (hp : SH) (t : TypeId) : Option SH :=
 match P.underlying t with
 | some (.slice el) => (match P.info? el with
  | some ie => (match ie.zero with
   | some z => (match kz z.cells.toList with
    | some (sh, _) => if 0 < ie.size ∧ z.cells.size = ie.size then some (hp ++ [⟨true, el, .row sh (.bE 1 .nil) (.ic 0) 0⟩]) else none
    | none => none)
   | none => none)
  | none => none)
 | _ => none
def Mh (P : Program) (hp : SH) (t : TypeId) (x y : SV) : Option SH :=
 match P.underlying t with
 | some (.slice el) => (match P.info? el with
  | some ie => (match ie.zero with
   | some z => if 0 < ie.size ∧ z.cells.size = ie.size then (match y with
    | .c sy => (match rowOf hp sy with
     | some (shy, S, m, hm) => if shy.length = ie.size then (match x with
      | .c (.di (.slice none 0 0)) => if hm ≤ 1000000000 ∧ hm * ie.bytes ≤ 140737488355328 then some (hp ++ [⟨true, el, .row shy S m hm⟩]) else none
      | .c (.ow l) => (match hp[l]? with
       | some ⟨true, ty, .row sh R n hi⟩ => if ty = el ∧ hi + hm ≤ 1000000000 ∧ (hi + hm) * ie.bytes ≤ 140737488355328 then (match IQ sh shy with
        | some sj => some (hp.set l ⟨true, ty, .dead⟩ ++ [⟨true, el, .row sj (if aY n (.ic 0) then S else .eo R n S) (oK n m) (hi + hm)⟩])
        | none => none) else none
       | _ => none)
      | _ => none) else none
     | none => none)
    | _ => none) else none
   | none => none)
  | none => none)
 | _ => none
section
variable {P : Program} {ρ : Env} {B : Nat} {w0 w : World} {ls : Ls} {hp : SH} {tm : aw} {a : Act} {G : E} {cf : a8}
theorem xH {s : SC} {sh : List Sk} {R n : E} {hi : Int} {v : Value} (h : rowOf hp s = some (sh, R, n, hi)) (hh : aB ρ B w0 ls hp w) (hr : RS ρ ls s v) : gB w sh hi (ev ρ (.eY R n)).x v := by
 unfold rowOf at h
 split at h
 ·rename_i l
  split at h
  ·rename_i b ty sh' R' n' hi' hl
   cases h
   obtain ⟨A, c, h1, h2, h3, h4, h5, h6, h7⟩ := fD hh hl
   obtain ⟨g1, _⟩ := hr
   rw [g1] at h1; cases h1
   exact ⟨A, c, rfl, h2, h3, h4, h5, h6, h7⟩
  ·rename_i b ty cs hl
   split at h
   ·rename_i s hk
    split at h
    ·rename_i es ht
     cases h
     have hra : jm hp [s] (cs.length : Nat) (.ow l) = some (.eY (.bE 1 (aL es)) (.ic (cs.length : Nat)), []) := by
      simp only [jm, hl]
      rw [if_pos ⟨rfl, by simp⟩, ht]
      simp
     exact jT hra (fun e he => by cases he) hh hr
    ·cases h
   ·cases h
  ·cases h
 ·rename_i l z lo n' hi'
  split at h
  ·rename_i b ty sh' R' k hk hl
   split at h
   ·rename_i hz
    cases h
    exact nW hh hl (by simpa using hz) hr
   ·cases h
  ·cases h
 ·rename_i l off n' cap
  split at h
  ·rename_i b ty cs hl
   split at h
   ·rename_i hc
    split at h
    ·rename_i s hk
     split at h
     ·rename_i es ht
      cases h
      have hra : jm hp [s] (n' : Nat) (.sc l off n' cap) = some (.eY (.bE 1 (aL es)) (.ic (n' : Nat)), []) := by
       simp only [jm, hl]
       rw [if_pos ⟨by simpa using hc, by simp, by simp⟩]
       simp only [List.length_singleton, Nat.mul_one]
       rw [ht]
      exact jT hra (fun e he => by cases he) hh hr
     ·cases h
    ·cases h
   ·cases h
  ·cases h
 ·cases h
theorem JI : ∀ {vs : List Value} {sh : List Sk} {es : List E}, kz vs = some (sh, es) → sh.length = vs.length ∧ es.length = vs.length ∧ ∀ (p : Nat) (s : Sk), sh[p]? = some s → ∃ e v, es[p]? = some e ∧ vs[p]? = some v ∧ iR s (ev ρ e).x.y = v ∧ dM s (ev ρ e).x.y := by
 intro vs
 induction vs with
 | nil => intro sh es h; cases h; exact ⟨rfl, rfl, fun p s hp => by simp at hp⟩
 | cons u r ih =>
  intro sh es h
  have key : ∀ {s0 : Sk} {e0 : E} {sh' : List Sk} {es' : List E}, kz r = some (sh', es') → iR s0 (ev ρ e0).x.y = u → dM s0 (ev ρ e0).x.y → (s0 :: sh').length = (u :: r).length ∧ (e0 :: es').length = (u :: r).length ∧ ∀ (p : Nat) (s : Sk), (s0 :: sh')[p]? = some s → ∃ e v, (e0 :: es')[p]? = some e ∧ (u :: r)[p]? = some v ∧ iR s (ev ρ e).x.y = v ∧ dM s (ev ρ e).x.y := fun {s0 e0 sh' es'} hk h1 h2 => by
   obtain ⟨i1, i2, i3⟩ := ih hk
   refine ⟨by simp [i1], by simp [i2], fun p s hp => ?_⟩
   cases p with
   | zero => simp at hp; subst hp; exact ⟨e0, u, rfl, rfl, h1, h2⟩
   | succ p => simpa using i3 p s (by simpa using hp)
  cases u <;> simp only [kz] at h <;> first | (cases h; done) | skip
  all_goals
   split at h
   ·rename_i s e hk
    cases h
    first
     | exact key hk rfl ⟨Int.le_refl _, Int.le_refl _⟩
     | exact key hk rfl trivial
     | exact key hk rfl ⟨_, rfl, rfl, Int.le_refl _⟩
   ·cases h
theorem sM {z : Array Value} {k q : Nat} (h : q < k) : (madeCells z k).toList[q]? = some (z[q % z.size]!) := by
 simp [madeCells, h]
theorem F0 {t : TypeId} {x y : SV} {u v : Value} {hp' : SH} {bg : List E} (h : FZ P hp t x y = some (hp', bg)) (hh : aB ρ B w0 ls hp w) (hob : ∀ e ∈ bg, al ρ e = true) (hx : RV ρ ls x u) (hy : RV ρ ls y v) :
 ∃ z w', (Instr.makeSlice t u v).run P w = .ok z w' ∧ aB ρ B w0 (ls ++ [z]) hp' w' ∧ ∃ A n c, z = .slice A n c := by
 unfold FZ at h
 split at h
 ·rename_i el kl n lo hi kc n' lo' hi' ht
  split at h
  ·rename_i he
   have he := aG he
   subst he
   split at h
   ·rename_i ie hie
    split at h
    ·rename_i z hz
     split at h
     ·rename_i sh es hk
      split at h
      ·rename_i hif
       obtain ⟨i1, i2, i4⟩ := hif
       cases h
       obtain ⟨rfl, x2, x3'⟩ := hx
       obtain ⟨rfl, _, _⟩ := hy
       have hn0 : 0 ≤ aa ρ n := by
        by_cases hc : 0 ≤ lo
        ·omega
        ·exact of_decide_eq_true (hob (.le (.ic 0) n) (by simp [hc]))
       have x3 : aa ρ n ≤ min hi 1000000000 := by
        by_cases hc : hi ≤ 1000000000
        ·omega
        ·have : aa ρ n ≤ 1000000000 := of_decide_eq_true (hob (.le n (.ic 1000000000)) (by simp [hc]))
         omega
       obtain ⟨k1, k2, k3⟩ := JI (ρ := ρ) hk
       have hsz : sh.length = ie.size := by rw [k1]; simpa using i2
       have hN : ((aa ρ n).toNat : Int) = aa ρ n := Int.toNat_of_nonneg hn0
       have hbytes : ie.bytes * (aa ρ n).toNat ≤ 281474976710656 := by
        have h1 : (aa ρ n).toNat ≤ 1000000000 := by omega
        have h2 : ie.bytes * (aa ρ n).toNat ≤ 100000 * 1000000000 := Nat.mul_le_mul i4 h1
        omega
       have hb' : ((ie.bytes : Int)) * aa ρ n ≤ 281474976710656 := by
        have hb : ((ie.bytes * (aa ρ n).toNat : Nat) : Int) ≤ 281474976710656 := by omega
        rw [Int.natCast_mul, hN] at hb
        exact hb
       have hrm := run_make (P := P) w t el ie z ht hie hz kl kc (aa ρ n) (aa ρ n) hn0 (Int.le_refl _) hb' (by omega)
       refine ⟨_, _, hrm, hh.push (World.grownBy_alloc w _ none) ?_ (fun b hb => by cases hb.sl; exact Nat.le_refl _), _, _, _, rfl⟩
       have hrow : aO sh (aU ρ (.kY (aL es))) (aa ρ n).toNat = (madeCells z.cells ((aa ρ n).toNat * ie.size)).toList := by
        refine (ma (by simp [size_madeCells, hsz]) fun i j s hi hs => ?_).symm
        have hj : j < sh.length := (List.getElem?_eq_some_iff.1 hs).1
        have hq : i * sh.length + j < (aa ρ n).toNat * ie.size := by
         have := Nat.mul_le_mul_right ie.size (show i + 1 ≤ (aa ρ n).toNat from hi)
         rw [Nat.add_mul] at this
         rw [hsz] at hj ⊢; omega
        rw [sM hq, i2, hsz, Nat.mul_comm i, Nat.mul_add_mod, Nat.mod_eq_of_lt (by omega)]
        obtain ⟨e, v, q1, q2, q3, _⟩ := k3 j s hs
        have hR : aU ρ (.kY (aL es)) i j = (ev ρ e).x.y := by
         show ((ev ρ (aL es)).l.getD (j : Int).toNat (xI 0)).y = _
         rw [bM, Int.toNat_natCast, List.getD_eq_getElem?_getD]
         unfold aM
         rw [List.getElem?_map, q1]; rfl
        rw [hR, q3]
        congr 1
        have hjz : j < z.cells.size := by rw [i2, ← hsz]; exact hj
        simp only [Array.getElem!_eq_getD, Array.getD_eq_getD_getElem?]
        have q2' : z.cells[j]? = some v := by rw [← Array.getElem?_toList]; exact q2
        rw [q2']; rfl
       refine ⟨some ⟨w.heap.size, 0, none⟩, (aa ρ n).toNat, by simp, hn0, x3, Nat.le_refl _, by rw [hsz]; exact i1, fun i hi => ?_, fun _ => ?_, fun e => by cases e⟩
       ·refine iy fun p s hs => ?_
        obtain ⟨e, v, q1, q2, _, q4⟩ := k3 p s hs
        have hR : aU ρ (.kY (aL es)) i (0 + p) = (ev ρ e).x.y := by
         show ((ev ρ (aL es)).l.getD (0 + (p : Int)).toNat (xI 0)).y = _
         rw [bM, Int.zero_add, Int.toNat_natCast, List.getD_eq_getElem?_getD]
         unfold aM
         rw [List.getElem?_map, q1]; rfl
        rw [hR]; exact q4
       ·rw [hrow, hsz]
        exact World.ownsRow_lit w _ (aa ρ n).toNat hh.size (by simp only [maxLen]; omega) (size_madeCells _ _)
      ·cases h
     ·cases h
    ·cases h
   ·cases h
  ·cases h
 ·cases h
end
section
variable {P : Program} {ρ : Env} {B : Nat} {w0 w : World} {ls : Ls} {hp : SH} {tm : aw} {a : Act} {G : E} {cf : a8}
theorem C1 {t : TypeId} {hp' : SH} (h : zK P hp t = some hp') (hh : aB ρ B w0 ls hp w) : ∃ z w', (Instr.buildSlice t 0 #[]).run P w = .ok z w' ∧ aB ρ B w0 (ls ++ [z]) hp' w' ∧ ∃ A n c, z = .slice A n c := by
 unfold zK at h
 split at h
 ·rename_i el ht
  split at h
  ·rename_i ie hie
   split at h
   ·rename_i z hz
    split at h
    ·rename_i sh es hk
     split at h
     ·rename_i hif
      cases h
      obtain ⟨k1, _, _⟩ := JI (ρ := ρ) hk
      have hsz : sh.length = ie.size := by rw [k1]; simpa using hif.2
      have hrun : (Instr.buildSlice t 0 #[]).run P w = .ok (.slice (some ⟨w.heap.size, 0, none⟩) 0 0) (w.alloc (.cells #[] el)) := by
       have e0 : (Array.map (fun _ => (default : Value)) (Array.range 0)) = #[] := by simp [Array.range_zero']
       simp [Instr.buildSlice, run_underlying ht, sizeOf, typeInfo, hie, Instr.fill, newRow, e0]
      refine ⟨_, _, hrun, hh.push (World.grownBy_alloc w _ none) ?_ (fun b hb => by cases hb.sl; exact Nat.le_refl _), _, _, _, rfl⟩
      refine ⟨some ⟨w.heap.size, 0, none⟩, 0, by simp [aa, ev, dI, xI], Int.le_refl _, Int.le_refl _, Nat.le_refl _, by rw [hsz]; exact hif.1, fun i hi => by simp [aa, ev, dI, xI] at hi, fun _ => ?_, fun e => by cases e⟩
      have := World.ownsRow_lit (base := B) (e := el) (size := ie.size) w #[] 0 hh.size (by simp [maxLen]) (by simp)
      rw [hsz]
      simpa [aa, ev, dI, xI, aO] using this
     ·cases h
    ·cases h
   ·cases h
  ·cases h
 ·cases h
theorem F1 {sh : List Sk} {R S n : E} (h0 : 0 ≤ aa ρ n) (k : Nat) : aO sh (aU ρ (.eo R n S)) ((aa ρ n).toNat + k) = aO sh (aU ρ R) (aa ρ n).toNat ++ aO sh (aU ρ S) k := by
 rw [j7]
 have e1 : aO sh (aU ρ (.eo R n S)) (aa ρ n).toNat = aO sh (aU ρ R) (aa ρ n).toNat := bQ fun i hi => by
  have : aU ρ (.eo R n S) i = aU ρ R i := by
   funext p
   exact if_pos (show (i : Int) < aa ρ n by omega)
  rw [this]
 have e2 : aO sh (fun j p => aU ρ (.eo R n S) (j + (aa ρ n).toNat) p) k = aO sh (aU ρ S) k := bQ fun i hi => by
  have : (fun p => aU ρ (.eo R n S) ((i : Int) + (aa ρ n).toNat) p) = aU ρ S i := by
   funext p
   show (if (i : Int) + (aa ρ n).toNat < aa ρ n then _ else aU ρ S ((i : Int) + (aa ρ n).toNat - aa ρ n) p) = _
   rw [if_neg (by omega), show (i : Int) + (aa ρ n).toNat - aa ρ n = i by omega]
  exact congrArg (fun f => gk sh f 0) this
 rw [e1, e2]
theorem C3 {sh : List Sk} {R S n : E} {k : Nat} (h0 : 0 ≤ aa ρ n) (h1 : au sh (aU ρ R) (aa ρ n).toNat) (h2 : au sh (aU ρ S) k) : au sh (aU ρ (.eo R n S)) ((aa ρ n).toNat + k) := fun i hi => by
 by_cases hlt : i < (aa ρ n).toNat
 ·have : aU ρ (.eo R n S) i = aU ρ R i := by
   funext p
   exact if_pos (show (i : Int) < aa ρ n by omega)
  rw [this]; exact h1 i hlt
 ·have : aU ρ (.eo R n S) i = aU ρ S (i - (aa ρ n).toNat : Nat) := by
   funext p
   show (if (i : Int) < aa ρ n then _ else aU ρ S ((i : Int) - aa ρ n) p) = _
   rw [if_neg (by omega), show (i : Int) - aa ρ n = ((i - (aa ρ n).toNat : Nat) : Int) by omega]
  rw [this]; exact h2 _ (by omega)
theorem rO {sh : List Sk} {R : Int → Int → Y} : ∀ {n : Nat}, au sh R n → ∀ v ∈ aO sh R n, v.oneCell' = true := by
 intro n h v hv
 obtain ⟨q, hq⟩ := List.mem_iff_getElem?.1 hv
 have hlt : q < n * sh.length := by have := (List.getElem?_eq_some_iff.1 hq).1; rwa [a7] at this
 have h0 : 0 < sh.length := Nat.pos_of_ne_zero fun e => by rw [e] at hlt; omega
 have e : q / sh.length * sh.length + q % sh.length = q := by rw [Nat.mul_comm]; exact Nat.div_add_mod q sh.length
 have hi : q / sh.length < n := Nat.div_lt_of_lt_mul (by rw [Nat.mul_comm]; exact hlt)
 have hj : q % sh.length < sh.length := Nat.mod_lt _ h0
 have hs : sh[q % sh.length]? = some sh[q % sh.length] := List.getElem?_eq_getElem hj
 have := cT (R := R) hi hs
 rw [e, hq] at this
 cases this
 have dZ := gK (h _ hi) hs
 rw [Int.zero_add] at dZ
 generalize sh[q % sh.length] = s at *
 cases s with
 | int k lo hi => rfl
 | bool => rfl
 | p8 => exact dZ
 | str hi => obtain ⟨t, ht, _⟩ := dZ; simp only [iR]; rw [ht]; rfl
theorem nM {t ty e : TypeId} {i : TypeInfo} {base : Nat} (ht : P.underlying t = some (.slice e)) (hi : P.info? e = some i) {v : Value} {n : Nat} {xs : List Value} (hown : w.ownsRow base e i.size v n xs) (c : Nat) :
 (Builtin.append_ #[t, t] ty #[v, .slice none 0 c]).run P w = .ok v w := by
 rcases hown.2 with ⟨rfl, rfl⟩ | ⟨g, cap, cur, rfl, _, _, hnc, _⟩
 ·simp [Builtin.append_, run_underlying ht, sizeOf, typeInfo, hi, Builtin.lenOf, Builtin.firstCells]
 ·simp [Builtin.append_, run_underlying ht, sizeOf, typeInfo, hi, Builtin.lenOf, Builtin.firstCells, hnc, storeCells]
theorem IS {t ty : TypeId} {x y : SV} {u v : Value} {hp' : SH} (h : Mh P hp t x y = some hp') (hh : aB ρ B w0 ls hp w) (hx : RV ρ ls x u) (hy : RV ρ ls y v) :
 ∃ z w', (Builtin.append_ #[t, t] ty #[u, v]).run P w = .ok z w' ∧ aB ρ B w0 (ls ++ [z]) hp' w' ∧ ∃ A n c, z = .slice A n c := by
 unfold Mh at h
 split at h
 ·rename_i el ht
  split at h
  ·rename_i ie hie
   split at h
   ·rename_i zv hzv
    split at h
    ·rename_i hif
     obtain ⟨h0, hzs⟩ := hif
     split at h
     ·rename_i sy
      split at h
      ·rename_i shy S m hm hro
       split at h
       ·rename_i hsy
        obtain ⟨Ay, cy, rfl, y2, y3, y4, y5, y6, y7⟩ := xH hro hh hy
        have eI : (ev ρ (.eY S m)).x.i = aa ρ m := rfl
        have eR : (ev ρ (.eY S m)).x.r = aU ρ S := rfl
        rw [eI] at y2 y3 y4 y6 y7
        rw [eR] at y6 y7
        rw [eI]
        -- the general case: an own row, and the other one behind it
        have gen : ∀ {u : Value} {N : Nat} {xs : List Value}, w.ownsRow B el ie.size u N xs → N + (aa ρ m).toNat ≤ 1000000000 → (N + (aa ρ m).toNat) * ie.bytes ≤ 140737488355328 →
         ∃ z w', (Builtin.append_ #[t, t] ty #[u, .slice Ay (aa ρ m).toNat cy]).run P w = .ok z w' ∧ w'.ownsRow B el ie.size z (N + (aa ρ m).toNat) (xs ++ aO shy (aU ρ S) (aa ρ m).toNat) ∧ w.grownBy w' u.ownBlock ∧ (z.ownBlock = u.ownBlock ∨ z.ownBlock = some w.heap.size) := fun {u N xs} hown b1 b2 => by
         by_cases hm0 : (aa ρ m).toNat = 0
         ·rw [hm0]
          have hrow0 : aO shy (aU ρ S) 0 = [] := rfl
          rw [hrow0, List.append_nil, Nat.add_zero]
          cases hA : Ay with
          | none =>
           have hrun := nM (ty := ty) ht hie hown cy
           exact ⟨u, w, hrun, hown, aN (Below.refl _ _) _, .inl rfl⟩
          | some a0 =>
           obtain ⟨v', w', r1, r2, r3, _, r5⟩ := run_append_own_at (P := P) w B t ty el ie zv ie.size ie.bytes ht hie hzv rfl rfl hzs h0 _ _ _ hown a0 0 cy [] (by simp) (fun j u hu => by simp at hu) (fun u hu => by cases hu) (by simp only [maxLen]; omega) (by simpa [hm0] using b2) hh.size
           exact ⟨v', w', r1, by simpa using r2, r3, r5⟩
         ·obtain ⟨a0, rfl, q⟩ := y7 (by omega)
          obtain ⟨v', w', r1, r2, r3, _, r5⟩ := run_append_own_at (P := P) w B t ty el ie zv ie.size ie.bytes ht hie hzv rfl rfl hzs h0 _ _ _ hown a0 (aa ρ m).toNat cy (aO shy (aU ρ S) (aa ρ m).toNat) (by rw [a7, hsy]) q (rO y6) (by simp only [maxLen]; omega) b2 hh.size
          exact ⟨v', w', r1, r2, r3, r5⟩
        have capOf : ∀ {z : Value} {N : Nat} {xs : List Value} {w' : World}, w'.ownsRow B el ie.size z N xs → ∃ A c, z = .slice A N c ∧ N ≤ c := fun {z N xs w'} hown => by
         rcases hown.2 with ⟨e, e'⟩ | ⟨g, cap, cur, e, _, _, hc, _⟩
         ·subst e'; exact ⟨none, 0, e, Nat.le_refl _⟩
         ·exact ⟨_, cap, e, hc⟩
        have bytesOf : ∀ {k hk : Int}, 0 ≤ k → k ≤ hk → hk * ie.bytes ≤ 140737488355328 → k.toNat * ie.bytes ≤ 140737488355328 := fun {k hk} k0 k1 k2 => by
         have h2 : (k.toNat : Int) * (ie.bytes : Int) ≤ hk * ie.bytes := Int.mul_le_mul_of_nonneg_right (by omega) (by omega)
         have h3 : ((k.toNat * ie.bytes : Nat) : Int) = (k.toNat : Int) * (ie.bytes : Int) := by simp
         omega
        split at h
        ·split at h
         ·rename_i hb
          obtain ⟨b1, b2⟩ := hb
          cases h
          have hu : u = .slice none 0 0 := hx
          subst hu
          obtain ⟨z, w', r1, r2, r3, r4⟩ := gen (World.ownsRow_nil w B el ie.size) (by omega) (by rw [Nat.zero_add]; exact bytesOf y2 y3 b2)
          rw [Nat.zero_add, List.nil_append] at r2
          obtain ⟨A, c, rfl, hc⟩ := capOf r2
          refine ⟨_, w', r1, hh.push r3 ?_ (fun b hb => ?_), _, _, _, rfl⟩
          ·exact ⟨A, c, by simp, y2, y3, hc, y5, y6, fun _ => by rw [hsy]; exact r2, fun e => by cases e⟩
          ·have hb := hb.sl
           rcases r4 with e | e
           ·rw [iF, e] at hb; cases hb
           ·rw [iF, e] at hb; cases hb; exact Nat.le_refl _
         ·cases h
        ·rename_i l
         split at h
         ·rename_i ty' sh R n hi hl
          split at h
          ·rename_i hb
           obtain ⟨rfl, b1, b2⟩ := hb
           split at h
           ·rename_i sj hj
            cases h
            obtain ⟨g1, _⟩ := hx
            obtain ⟨A, c', e1, e2, e3, e4, e5, e6, e7, _⟩ := hh.bA l _ hl
            rw [g1] at e1; cases e1
            have hown := e7 rfl
            obtain ⟨j1, j2⟩ := BD hj
            have l1 := eZ j1
            have l2 := eZ j2
            have hshsz : sh.length = ie.size := by rw [l1, ← l2, hsy]
            rw [hshsz] at hown
            have hsum : (aa ρ n).toNat + (aa ρ m).toNat = (aa ρ n + aa ρ m).toNat := by omega
            obtain ⟨z, w', r1, r2, r3, r4⟩ := gen hown (by omega) (by rw [hsum]; exact bytesOf (by omega) (by omega) b2)
            obtain ⟨A', c2, rfl, hc⟩ := capOf r2
            have hn' : aa ρ (oK n m) = aa ρ n + aa ρ m := me ρ n m
            have hn2 : (aa ρ (oK n m)).toNat = (aa ρ n).toNat + (aa ρ m).toNat := by rw [hn']; omega
            have r6 := (dW j1 (aU ρ R) (aa ρ n).toNat)
            have r7 := (dW j2 (aU ρ S) (aa ρ m).toNat)
            have hcat : au sj (aU ρ (if aY n (.ic 0) then S else .eo R n S)) ((aa ρ n).toNat + (aa ρ m).toNat) ∧ aO sj (aU ρ (if aY n (.ic 0) then S else .eo R n S)) ((aa ρ n).toNat + (aa ρ m).toNat) = aO sh (aU ρ R) (aa ρ n).toNat ++ aO shy (aU ρ S) (aa ρ m).toNat := by
             split
             ·rename_i hz
              have hz := aG hz
              subst hz
              have z0 : (aa ρ (.ic 0)).toNat = 0 := rfl
              rw [z0, Nat.zero_add]
              exact ⟨r7.1 y6, by rw [← r7.2]; simp [aO]⟩
             ·exact ⟨C3 e2 (r6.1 e6) (r7.1 y6), by rw [F1 e2, ← r6.2, ← r7.2]⟩
            refine ⟨_, w', r1, hh.grown hl rfl g1 r3 iF iF r4 ⟨A', c2, by rw [hn2]; simp, by rw [hn']; omega, by rw [hn']; omega, by rw [hn2]; exact hc, by rw [← l1]; exact e5, by rw [hn2]; exact hcat.1, fun _ => ?_, fun e => by cases e⟩, _, _, _, rfl⟩
            rw [hn2, hcat.2, ← l1, hshsz]; exact r2
           ·cases h
          ·cases h
         ·cases h
        ·cases h
       ·cases h
      ·cases h
     ·cases h
    ·cases h
   ·cases h
  ·cases h
 ·cases h
end
def zL (hp : SH) : SV → Option (Nat × E × E × Int)
 | .c (.ow l) => (match hp[l]? with
  | some ⟨_, _, .row _ _ n hi⟩ => some (l, .ic 0, n, hi)
  | _ => none)
 | .c (.sl l z lo n hi) => if z == 1 then some (l, lo, n, hi) else none
 | _ => none
def fG (n m : E) : E := if aY n m then n else .mn n m
def F3 (P : Program) (hp : SH) (t : TypeId) (d s : SV) : Option (SC × SH) :=
 match P.underlying t with
 | some (.slice el) => (match dp P el, zL hp d, s with
  | some 1, some (l, lo, n, hd), .c ss => (match rowOf hp ss, hp[l]? with
   | some ([s2], S, m, hm), some ⟨true, ty, .row [s1] R N H⟩ => (match FY s1 s2 with
    | some s3 => some (.int .i64 (fG n m) 0 (min hd hm), hp.set l ⟨true, ty, .row [s3] (.uF R lo (fG n m) S (.ic 0)) N H⟩)
    | none => none)
   | _, _ => none)
  | _, _, _ => none)
 | _ => none
section
variable {P : Program} {ρ : Env} {B : Nat} {w0 w : World} {ls : Ls} {hp : SH} {tm : aw} {a : Act} {G : E} {cf : a8}
theorem IT (n m : E) : aa ρ (fG n m) = min (aa ρ n) (aa ρ m) := by
 unfold fG
 split
 ·rename_i h; rw [← aG h]; omega
 ·rfl
theorem C4 {d : SV} {l : Nat} {lo n : E} {hd : Int} {v : Value} {ty : TypeId} {s1 : Sk} {R N : E} {H : Int} (h : zL hp d = some (l, lo, n, hd)) (hh : aB ρ B w0 ls hp w) (hr : RV ρ ls d v) (hl : hp[l]? = some ⟨true, ty, .row [s1] R N H⟩) :
 ∃ A C A' c, ls[l]? = some (.slice A (aa ρ N).toNat C) ∧ v = .slice A' (aa ρ n).toNat c ∧ 0 ≤ aa ρ lo ∧ 0 ≤ aa ρ n ∧ aa ρ n ≤ hd ∧ (aa ρ lo).toNat + (aa ρ n).toNat ≤ (aa ρ N).toNat ∧ (0 < (aa ρ n).toNat → ∃ a, A = some a ∧ A' = some (a.add (aa ρ lo).toNat)) := by
 obtain ⟨A, c, h1, h2, h3, h4, h5, h6, h7⟩ := fD hh hl
 unfold zL at h
 split at h
 ·rename_i l'
  split at h
  ·rename_i b ty' sh' R' n' hi' hl'
   cases h
   rw [hl] at hl'
   cases hl'
   obtain ⟨g1, _⟩ := hr
   rw [g1] at h1; cases h1
   refine ⟨A, c, A, c, g1, rfl, Int.le_refl _, h2, h3, by simp [aa, ev, dI, xI], fun h0 => ?_⟩
   obtain ⟨a0, q, _⟩ := h7 h0
   exact ⟨a0, q, by rw [q]; simp [aa, ev, dI, xI, Addr.add]⟩
  ·cases h
 ·rename_i l' z lo' n' hi'
  split at h
  ·rename_i hz
   cases h
   have hz : z = 1 := by simpa using hz
   subst hz
   obtain ⟨A0, N0, C, A', c', g1, rfl, g3, g4, g5, g6, g7, g8⟩ := hr
   rw [g1] at h1
   injection h1 with h1
   injection h1 with e1 e2 e3
   subst e1 e2 e3
   exact ⟨A0, C, A', c', g1, rfl, g3, g4, g5, g6, fun h0 => by obtain ⟨a0, q1, q2⟩ := g8 h0; exact ⟨a0, q1, by rw [q2, Nat.mul_one]⟩⟩
  ·cases h
 ·cases h
theorem jJ {s : Sk} {R : Int → Int → Y} {n i : Nat} (hi : i < n) : (aO [s] R n)[i]? = some (iR s (R i 0)) := by
 have := cT (sh := [s]) (R := R) (j := 0) hi rfl
 simpa using this
theorem F4 {t ty' : TypeId} {x y : SV} {u v : Value} {s : SC} {hp' : SH} (h : F3 P hp t x y = some (s, hp')) (hh : aB ρ B w0 ls hp w) (hx : RV ρ ls x u) (hy : RV ρ ls y v) :
 ∃ z w', (Builtin.copy_ #[t, t] ty' #[u, v]).run P w = .ok z w' ∧ aB ρ B w0 ls hp' w' ∧ RS ρ ls s z := by
 unfold F3 at h
 split at h
 ·rename_i el ht
  split at h
  ·rename_i l lo n hd ss hsz hdr
   split at h
   ·rename_i s2 S m hm ty s1 R N H hro hl
    split at h
    ·rename_i s3 hj
     cases h
     obtain ⟨A, C, A', c, d1, rfl, d3, d4, d5, d6, d7⟩ := C4 hdr hh hx hl
     obtain ⟨Ay, cy, rfl, y2, y3, y4, y5, y6, y7⟩ := xH hro hh hy
     have eI : (ev ρ (.eY S m)).x.i = aa ρ m := rfl
     have eR : (ev ρ (.eY S m)).x.r = aU ρ S := rfl
     rw [eI] at y2 y3 y4 y6 y7
     rw [eR] at y6 y7
     rw [eI]
     obtain ⟨j1, j2⟩ := BC hj
     have hs1 : iw [s1] [s3] = true := by simp [iw, j1]
     have hs2 : iw [s2] [s3] = true := by simp [iw, j2]
     obtain ⟨A1, c1, e1, e2, e3, e4, e5, e6, e7, _⟩ := hh.bA l _ hl
     rw [d1] at e1
     injection e1 with e1
     injection e1 with q1 q2 q3
     subst q1 q3
     have hown := e7 rfl
     have r1 := dW hs1 (aU ρ R) (aa ρ N).toNat
     have r2 := dW hs2 (aU ρ S) (aa ρ m).toNat
     have hk : aa ρ (fG n m) = min (aa ρ n) (aa ρ m) := IT n m
     have hkn : (aa ρ (fG n m)).toNat = Nat.min (aa ρ m).toNat (aa ρ n).toNat := by rw [hk]; show _ = min (aa ρ m).toNat (aa ρ n).toNat; omega
     have hsz1 : (P.info? el).map (·.size) = some 1 := hsz
     have val : RS ρ ls (.int .i64 (fG n m) 0 (min hd hm)) (goInt (aa ρ (fG n m)).toNat) := ⟨by rw [hk]; unfold goInt; congr 1; omega, by rw [hk]; omega, by rw [hk]; omega⟩
     have hRc : ∀ i : Nat, aU ρ (.uF R lo (fG n m) S (.ic 0)) i 0 = if (aa ρ lo).toNat ≤ i ∧ i < (aa ρ lo).toNat + (aa ρ (fG n m)).toNat then aU ρ S (i - (aa ρ lo).toNat : Nat) 0 else aU ρ R i 0 := fun i => by
      show (if aa ρ lo ≤ (i : Int) ∧ (i : Int) < aa ρ lo + aa ρ (fG n m) then aU ρ S ((i : Int) - aa ρ lo + 0) 0 else aU ρ R i 0) = _
      by_cases hc : (aa ρ lo).toNat ≤ i ∧ i < (aa ρ lo).toNat + (aa ρ (fG n m)).toNat
      ·rw [if_pos hc, if_pos (by omega), show (i : Int) - aa ρ lo + 0 = ((i - (aa ρ lo).toNat : Nat) : Int) by omega]
      ·rw [if_neg hc, if_neg (by omega)]
     have dZ : au [s3] (aU ρ (.uF R lo (fG n m) S (.ic 0))) (aa ρ N).toNat := fun i hi => by
      refine ⟨?_, trivial⟩
      rw [hRc]
      split
      ·rename_i hc
       have := (r2.1 y6) (i - (aa ρ lo).toNat) (by rw [hk] at hc; omega)
       exact this.1
      ·exact ((r1.1 e6) i hi).1
     by_cases hk0 : Nat.min (aa ρ m).toNat (aa ρ n).toNat = 0
     ·have hrun := run_copy_none (P := P) w t t ty' el A' Ay (aa ρ n).toNat c (aa ρ m).toNat cy ht hsz1 hk0
      refine ⟨_, w, hrun, ?_, by have := val; rw [hkn, hk0] at this; exact this⟩
      refine hh.lY hl rfl (aN (Below.refl _ _) none) (.inl rfl) ⟨A, C, d1, e2, e3, e4, by simp, dZ, fun _ => ?_, fun e => by cases e⟩
      have e : aO [s3] (aU ρ (.uF R lo (fG n m) S (.ic 0))) (aa ρ N).toNat = aO [s1] (aU ρ R) (aa ρ N).toNat := by
       rw [r1.2]
       refine bQ fun i hi => tk fun q hq => ?_
       have hq0 : q = 0 := by simpa using hq
       subst hq0
       have := hRc i
       rw [if_neg (by rw [hkn, hk0]; omega)] at this
       simpa using this
      rw [e]; exact hown
     ·have hkp : 0 < Nat.min (aa ρ m).toNat (aa ρ n).toNat := Nat.pos_of_ne_zero hk0
      have hn0 : 0 < (aa ρ n).toNat := Nat.lt_of_lt_of_le hkp (Nat.min_le_right _ _)
      have hm0 : 0 < (aa ρ m).toNat := Nat.lt_of_lt_of_le hkp (Nat.min_le_left _ _)
      obtain ⟨a0, qa, qa'⟩ := d7 hn0
      obtain ⟨ay, qy, hsrc⟩ := y7 hm0
      rcases hown.2 with ⟨e_1, _⟩ | ⟨g, cap, cur, e_1, hBg, hg, hNc, hcm, hcur, htake⟩
      ·rw [qa] at e_1; cases e_1
      ·rw [qa] at e_1
       injection e_1 with e_1 e_2 e_3
       injection e_1 with e_1
       subst e_1 e_3 qy
       rw [Addr.add_lit] at qa'
       simp only [Nat.zero_add] at qa'
       subst qa'
       simp only [List.length_singleton, Nat.mul_one] at hcur htake
       have hcs : (aO [s3] (aU ρ S) (aa ρ (fG n m)).toNat).length = Nat.min (aa ρ m).toNat (aa ρ n).toNat := by rw [a7, hkn]; simp
       have hkm : (aa ρ (fG n m)).toNat ≤ (aa ρ m).toNat := by rw [hkn]; exact Nat.min_le_left _ _
       have hkn' : (aa ρ (fG n m)).toNat ≤ (aa ρ n).toNat := by rw [hkn]; exact Nat.min_le_right _ _
       have hsrc' : ∀ j v, (aO [s3] (aU ρ S) (aa ρ (fG n m)).toNat)[j]? = some v → w.cell? (ay.add j) = some v := fun j v hv => by
        have hj : j < (aa ρ (fG n m)).toNat := by have := (List.getElem?_eq_some_iff.1 hv).1; rw [a7] at this; simpa using this
        rw [jJ hj] at hv
        refine hsrc j v ?_
        rw [r2.2, jJ (by omega)]
        exact hv
       have hrun := run_copy_row (P := P) w t t ty' el g (aa ρ lo).toNat (aa ρ n).toNat c ay (aa ρ m).toNat cy cur ty (aO [s3] (aU ρ S) (aa ρ (fG n m)).toNat) ht hsz1 hg hcs hsrc' (by rw [hcs, ← hkn, hcur]; omega)
        (rO (fun i hi => (r2.1 y6) i (by omega)))
       refine ⟨_, _, hrun, hh.lY hl rfl (row := some g) ⟨rfl, rfl, rfl, by simp [World.setRow], fun k _ hk => setRow_other w g k _ (fun e => hk (by rw [e]))⟩ (.inr ⟨_, rfl, .inl (by rw [d1, qa]; rfl)⟩) ⟨A, C, d1, e2, e3, e4, by simp, dZ, fun _ => ?_, fun e => by cases e⟩, by have := val; rw [hkn, ← hcs] at this; exact this⟩
       have hlen3 : (cur.toList.take (aa ρ lo).toNat ++ aO [s3] (aU ρ S) (aa ρ (fG n m)).toNat ++ cur.toList.drop ((aa ρ lo).toNat + (aO [s3] (aU ρ S) (aa ρ (fG n m)).toNat).length)).length = C := by
        simp only [List.length_append, List.length_take, List.length_drop, Array.length_toList, hcs, ← hkn, hcur]
        omega
       rw [qa]
       refine ⟨by rw [a7], .inr ⟨g, C, _, rfl, hBg, setRow_heap w g cur _ ty _ hg, hNc, hcm, by rw [List.size_toArray, hlen3]; simp, ?_⟩⟩
       have hlist : ∀ i, i < (aa ρ N).toNat → cur.toList[i]? = some (iR s3 (aU ρ R i 0)) := fun i hi => by
        have h1 := jJ (s := s3) (R := aU ρ R) hi
        rw [← r1.2, ← htake, List.getElem?_take, if_pos hi] at h1
        exact h1
       apply List.ext_getElem?
       intro i
       by_cases hi : i < (aa ρ N).toNat
       ·rw [jJ hi, List.getElem?_take, if_pos (by simpa using hi), hRc]
        simp only [hcs, ← hkn]
        split
        ·rename_i hc
         rw [List.append_assoc, List.getElem?_append_right (by simp; omega)]
         have e1 : i - (cur.toList.take (aa ρ lo).toNat).length = i - (aa ρ lo).toNat := by simp [hcur]; omega
         rw [e1, List.getElem?_append_left (by rw [a7]; simp; omega), jJ (by omega)]
        ·rename_i hc
         by_cases hlt : i < (aa ρ lo).toNat
         ·rw [List.append_assoc, List.getElem?_append_left (by simp [hcur]; omega), List.getElem?_take, if_pos hlt]
          exact hlist i hi
         ·rw [List.getElem?_append_right (by simp [hcur, a7]; omega), List.getElem?_drop]
          have e1 : (aa ρ lo).toNat + (aa ρ (fG n m)).toNat + (i - (cur.toList.take (aa ρ lo).toNat ++ aO [s3] (aU ρ S) (aa ρ (fG n m)).toNat).length) = i := by simp [hcur, a7]; omega
          rw [e1]
          exact hlist i hi
       ·rw [List.getElem?_eq_none (by simp; omega), List.getElem?_eq_none (by rw [a7]; simp; omega)]
    ·cases h
   ·cases h
  ·cases h
 ·cases h
end
def F5 (P : Program) (cf : a8) (tm : aw) (hp : SH) (G : E) (f : Operand) (args : List Operand) : Option (SV × SH × Ow) :=
 match cA tm G f with
 | some (.c (.fn f [] [])) => (match kS tm G args with
  | some vs => (match jw (tA cf f vs) f hp vs with
   | some (c, es, bg) => if Nat.ble (fQ c.fs c.res).length 1 then some ((ei cf c es hp.length).1, hp ++ (ei cf c es hp.length).2, ⟨bg, lQ cf c.pre es⟩) else none
   | none => none)
  | none => none)
 | _ => none
section
variable {P : Program} {ρ : Env} {B : Nat} {w0 w w' : World} {ls : Ls} {hp : SH} {tm : aw} {a : Act} {G : E} {cf : a8}
theorem F6 {f : Operand} {args : List Operand} {v : SV} {hp' : SH} {ow : Ow} (h : F5 P cf tm hp G f args = some (v, hp', ow)) (hc : aP P ρ cf) (hw : ow.Ok ρ) (hr : aX ρ ls tm a) (hG : al ρ G = true) (hh : aB ρ B w0 ls hp w) :
 ∃ (f' : FuncId) (fn : Func), a.eval f = .func (.func f') #[] #[] ∧ P.funcs[f']? = some fn ∧ fn.body.isSome = true ∧ (fn.name == "runtime.NumGoroutine") = false ∧
  Calls P f' (args.map a.eval).toArray w fun e w' => ∃ z, e = .returned z ∧ ∃ ls', Ext ls ls' ∧ aB ρ B w0 ls' hp' w' ∧ RV ρ ls' v z := by
 unfold F5 at h
 split at h
 ·rename_i f' hf
  obtain ⟨fs, cs, he, q1, q2⟩ := aj hf hr hG
  have hfs : fs = [] := by cases fs with | nil => rfl | cons _ _ => exact q1.elim
  have hcs : cs = [] := by cases cs with | nil => rfl | cons _ _ => exact q2.elim
  subst hfs hcs
  split at h
  ·rename_i vs hvs
   split at h
   ·rename_i c es bg hfc
    obtain ⟨m1, m2, ha⟩ := fI hfc
    have m1 := j9 m1
    obtain ⟨k1, fn, k2, k3, k4⟩ := hc.mW c m1
    split at h
    ·rename_i hle
     cases h
     refine ⟨f', fn, he, by rw [← m2]; exact k2, k3, k4, ?_⟩
     have hargs := dU hh ha hw.1 (b8 hr hG hvs)
     have hcall := k1 (aM ρ es) (args.map a.eval) w (hh.cS.up hh.size) hargs (gD hc.pb hw.2)
     rw [m2] at hcall
     refine hcall.mono fun e w' ⟨z, g1, g2, g3⟩ => ⟨z, g1, ?_⟩
     exact (hh.calls g3).result hc hh.size (fun i y b hy hb => fN hh.size (hh.bA i y hy) hb) g2 (Nat.le_of_ble_eq_true hle)
    ·cases h
   ·cases h
  ·cases h
 ·cases h
end
def BE (P : Program) (tm : aw) (hp : SH) (G : E) (op : BinOp) (t : TypeId) (x y : Operand) : Option Bool :=
 match cA tm G x, cA tm G y, qi P t with
 | some (.c (.ow l)), some (.c (.di (.slice none 0 0))), true => (match hp[l]? with
  | some ⟨_, _, .grow _ (_ :: _)⟩ => (match op with | .eql => some false | .neq => some true | _ => none)
  | _ => none)
 | _, _, _ => none
section
variable {P : Program} {ρ : Env} {B : Nat} {w0 w : World} {ls : Ls} {hp : SH} {tm : aw} {a : Act} {G : E} {cf : a8}
end
section
variable {P : Program} {ρ : Env} {B : Nat} {w0 w : World} {ls : Ls} {hp : SH} {tm : aw} {a : Act} {G : E} {cf : a8}
end
def Mi (P : Program) (cf : a8) (tm : aw) (hp : SH) (G : E) (o : Oper) : Option (SV × SH × Ow) :=
 match o.op with
 | .binOp op t x y _ => (match BE P tm hp G op t x y with | some b => some (.c (.bool (.bc b)), hp, ⟨[], none⟩) | none => none)
 | .call { callee := .builtin .append, args, argTypes } => (match args.toList, argTypes.toList with
  | [x, y], [t, t'] => if t = t' then (match cA tm G x, cA tm G y with
   | some u, some v => (match vG P hp t u v with
    | some hp' => some (.c (.ow hp.length), hp', ⟨[], none⟩)
    | none => (match Mh P hp t u v with | some hp' => some (.c (.ow hp.length), hp', ⟨[], none⟩) | none => none))
   | _, _ => none) else none
  | _, _ => none)
 | .call { callee := .builtin .copy, args, argTypes } => (match args.toList, argTypes.toList with
  | [x, y], [t, t'] => if t = t' then (match cA tm G x, cA tm G y with
   | some u, some v => (match F3 P hp t u v with | some (s, hp') => some (.c s, hp', ⟨[], none⟩) | none => none)
   | _, _ => none) else none
  | _, _ => none)
 | .makeSlice t x y => (match cA tm G x, cA tm G y with
  | some u, some v => (match FZ P hp t u v with | some (hp', bg) => some (.c (.ow hp.length), hp', ⟨bg, none⟩) | none => none)
  | _, _ => none)
 | .buildSlice t 0 ps => if ps.isEmpty then (match zK P hp t with | some hp' => some (.c (.ow hp.length), hp', ⟨[], none⟩) | none => none) else none
 | .call { callee := .value f, args, .. } => F5 P cf tm hp G f args.toList
 | _ => none
section
variable {P : Program} {ρ : Env} {B : Nat} {w0 w : World} {ls : Ls} {hp : SH} {tm : aw} {a : Act} {G : E} {cf : a8}
theorem IU {o : Oper} {v : SV} {hp' : SH} {ow : Ow} (h : Mi P cf tm hp G o = some (v, hp', ow)) (hc : aP P ρ cf) (hw : ow.Ok ρ) (hr : aX ρ ls tm a) (hG : al ρ G = true) (hh : aB ρ B w0 ls hp w) :
 gy P (fun z w' => ∃ ls', Ext ls ls' ∧ aB ρ B w0 ls' hp' w' ∧ RV ρ ls' v z) ((execOp a.eval o).run P w) := by
 obtain ⟨dst, op, ty, pos, after, guard⟩ := o
 unfold Mi at h
 simp only at h
 split at h
 ·rename_i bop t x y yt
  split at h
  ·rename_i b hgn
   cases h
   unfold BE at hgn
   split at hgn
   ·rename_i l hx hy ht
    obtain ⟨e, he⟩ := lX ht
    split at hgn
    ·rename_i wr1 ty1 sz1 s1 r1 hl
     obtain ⟨_, hsz, A, n, c, vs, g1, g2, g3, g4⟩ := hh.bA l _ hl
     obtain ⟨x1, _⟩ := aj hx hr hG
     rw [g1] at x1
     have hxv : a.eval x = .slice A n c := (Option.some.inj x1).symm
     have hyv : a.eval y = .slice none 0 0 := aj hy hr hG
     have hn0 : n ≠ 0 := fun h0 => by
      have := g3.len
      rw [g2, h0, Nat.zero_mul] at this
      simp at this
     have hA : ∃ a0, A = some a0 := by
      rcases g4.2 with ⟨e1, e2⟩ | ⟨g, cap, cur, e1, _⟩
      ·exact (hn0 (by omega)).elim
      ·injection e1 with e1; exact ⟨_, e1⟩
     obtain ⟨a0, rfl⟩ := hA
     have heq := run_equal_slice_nil (P := P) w t e (some a0) n c he
     have hneq := run_neq_slice_nil (P := P) w t e (some a0) n c he
     have heql : (binOp .eql t (.slice (some a0) n c) (.slice none 0 0)).run P w = .ok (.bool false) w := by
      simp only [binOp]
      simp [heq]
     have hg : eqGuard bop t x y (.slice (some a0) n c) (.slice none 0 0) = pure () := eqGuard_at_slice _ _ _ _ _ _ _ _
     split at hgn
     ·cases hgn
      have hrun : (execOp a.eval ⟨dst, .binOp .eql t x y yt, ty, pos, after, guard⟩).run P w = .ok (.value (.bool false)) w := by simp [execOp, hxv, hyv, hg, heql]
      rw [hrun]
      exact ⟨ls, Ext.refl _, hh, rfl⟩
     ·cases hgn
      have hrun : (execOp a.eval ⟨dst, .binOp .neq t x y yt, ty, pos, after, guard⟩).run P w = .ok (.value (.bool true)) w := by simp [execOp, hxv, hyv, hg, hneq]
      rw [hrun]
      exact ⟨ls, Ext.refl _, hh, rfl⟩
     ·cases hgn
    ·cases hgn
   ·cases hgn
  ·cases h
 ·rename_i args argTypes
  split at h
  ·rename_i x y t t' hargs hts
   split at h
   ·rename_i he
    subst he
    split at h
    ·rename_i u v' hu hv
     have ea : args = #[x, y] := by rw [show args = args.toList.toArray by simp, hargs]
     have et : argTypes = #[t, t] := by rw [show argTypes = argTypes.toList.toArray by simp, hts]
     have fin : ∀ {hp1 : SH}, (∃ z w', (Builtin.append_ #[t, t] ty #[a.eval x, a.eval y]).run P w = .ok z w' ∧ aB ρ B w0 (ls ++ [z]) hp1 w' ∧ ∃ A n c, z = .slice A n c) →
      gy P (fun z w' => ∃ ls', Ext ls ls' ∧ aB ρ B w0 ls' hp1 w' ∧ RV ρ ls' (.c (.ow hp.length)) z) ((execOp a.eval ⟨dst, .call { callee := .builtin .append, args, argTypes }, ty, pos, after, guard⟩).run P w) := fun {hp1} hq => by
      obtain ⟨z, w', r1, r2, A, n, c, rfl⟩ := hq
      have hrun : (execOp a.eval ⟨dst, .call { callee := .builtin .append, args, argTypes }, ty, pos, after, guard⟩).run P w = .ok (.value (.slice A n c)) w' := by
       simp only [execOp, resolve, invoke, builtin, ea, et, Sem.run_bind, Sem.run_pure, Result.andThen_ok, List.map_toArray, List.map_cons, List.map_nil, r1]
      rw [hrun]
      exact ⟨_, Ext.snoc ls _, r2, by rw [← hh.len]; simp, A, n, c, rfl⟩
     split at h
     ·rename_i hp1 hx
      cases h
      exact fin (zJ (ty := ty) hx hh (aj hu hr hG) (aj hv hr hG))
     ·split at h
      ·rename_i hp1 hx
       cases h
       exact fin (IS (ty := ty) hx hh (aj hu hr hG) (aj hv hr hG))
      ·cases h
    ·cases h
   ·cases h
  ·cases h
 ·rename_i args argTypes
  split at h
  ·rename_i x y t t' hargs hts
   split at h
   ·rename_i he
    subst he
    split at h
    ·rename_i u v' hu hv
     split at h
     ·rename_i s hp1 hx
      cases h
      have ea : args = #[x, y] := by rw [show args = args.toList.toArray by simp, hargs]
      have et : argTypes = #[t, t] := by rw [show argTypes = argTypes.toList.toArray by simp, hts]
      obtain ⟨z, w', r1, r2, r3⟩ := F4 (ty' := ty) hx hh (aj hu hr hG) (aj hv hr hG)
      have hrun : (execOp a.eval ⟨dst, .call { callee := .builtin .copy, args, argTypes }, ty, pos, after, guard⟩).run P w = .ok (.value z) w' := by
       simp only [execOp, resolve, invoke, builtin, ea, et, Sem.run_bind, Sem.run_pure, Result.andThen_ok, List.map_toArray, List.map_cons, List.map_nil, r1]
      rw [hrun]
      exact ⟨ls, Ext.refl _, r2, r3⟩
     ·cases h
    ·cases h
   ·cases h
  ·cases h
 ·rename_i t x y
  split at h
  ·rename_i u v' hu hv
   split at h
   ·rename_i hp1 bg hx
    cases h
    obtain ⟨z, w', r1, r2, A, n, c, rfl⟩ := F0 hx hh hw.1 (aj hu hr hG) (aj hv hr hG)
    have hrun : (execOp a.eval ⟨dst, .makeSlice t x y, ty, pos, after, guard⟩).run P w = .ok (.value (.slice A n c)) w' := by
     simp only [execOp, Sem.run_bind, Sem.run_pure, Result.andThen_ok, r1]
    rw [hrun]
    exact ⟨_, Ext.snoc ls _, r2, by rw [← hh.len]; simp, A, n, c, rfl⟩
   ·cases h
  ·cases h
 ·rename_i t ps
  split at h
  ·rename_i hps
   split at h
   ·rename_i hp1 hx
    cases h
    have hps : ps = #[] := by simpa using hps
    subst hps
    obtain ⟨z, w', r1, r2, A, n, c, rfl⟩ := C1 hx hh
    have hrun : (execOp a.eval ⟨dst, .buildSlice t 0 #[], ty, pos, after, guard⟩).run P w = .ok (.value (.slice A n c)) w' := by
     simp only [execOp, Sem.run_bind, Sem.run_pure, Result.andThen_ok, List.map_toArray, List.map_nil, r1]
    rw [hrun]
    exact ⟨_, Ext.snoc ls _, r2, by rw [← hh.len]; simp, A, n, c, rfl⟩
   ·cases h
  ·cases h
 ·rename_i f args at_
  obtain ⟨f', fn, h1, h2, h3, h4, h5⟩ := F6 (P := P) h hc hw hr hG hh
  have e : args.map a.eval = (args.toList.map a.eval).toArray := by rw [← Array.toList_map]
  have hrun : (execOp a.eval ⟨dst, .call { callee := .value f, args, argTypes := at_ }, ty, pos, after, guard⟩).run P w = .ok (.enter f' (args.toList.map a.eval).toArray) w := by
   simp only [execOp, resolve, h1, Deferred.ofValue, Sem.run_bind, Sem.run_pure, Result.andThen_ok, invoke, e]
   simp [bd h2 h3 h4]
  rw [hrun]
  exact h5
 ·cases h
end
def Ox (P : Program) (cf : a8) (tm : aw) (hp : SH) (G : E) (o : Oper) : Option (SV × SH × Ow) := match cf.mY tm hp G o with
 | some r => some r
 | none => (match Mi P cf tm hp G o with
  | some r => some r
  | none => none)
theorem FE {P : Program} {ρ : Env} {B : Nat} {w0 w : World} {ls : Ls} {hp : SH} {tm : aw} {a : Act} {G : E} {cf : a8} {o : Oper} {v : SV} {hp' : SH} {ow : Ow} (h : Ox P cf tm hp G o = some (v, hp', ow)) (hc : aP P ρ cf) (hw : ow.Ok ρ) (hr : aX ρ ls tm a) (hG : al ρ G = true) (hh : aB ρ B w0 ls hp w) :
 gy P (fun z w' => ∃ ls', Ext ls ls' ∧ aB ρ B w0 ls' hp' w' ∧ RV ρ ls' v z) ((execOp a.eval o).run P w) := by
 unfold Ox at h
 split at h
 ·rename_i r hr'
  cases h
  exact hc.mY ρ.x ρ.k ρ.o tm hp G o v hp' ow hr' B w0 w ls a hw hr hG hh
 split at h
 ·rename_i r hr'
  cases h
  exact IU hr' hc hw hr hG hh
 ·cases h
def JJ (P : Program) (t : TypeId) : Bool := match P.underlying t with | some (.func _ _ _) => true | _ => false
def F7 (P : Program) (tm : aw) (G : E) (op : BinOp) (t : TypeId) (x y : Operand) : Option (E × Bool) :=
 match cA tm G x, cA tm G y, JJ P t with
 | some (.c (.fn _ _ _)), some (.c (.di .nilFunc)), true => (match op with | .eql => some (.ic 1, true) | .neq => some (.ic 1, false) | _ => none)
 | _, _, _ => none
section
variable {P : Program} {ρ : Env} {ls : Ls} {tm : aw} {a : Act} {G : E}
theorem rP (w : World) (d : Nat) {t : TypeId} {p r : Array TypeId} {v : Bool} {F : Fn} {fs cs : Array Value} (h : P.underlying t = some (.func p r v)) : (Op.equalIn (d + 1) t (.func F fs cs) .nilFunc).run P w = .ok false w := by
 simp [Op.equalIn, run_underlying h]
theorem F8 {dst : Option Tmp} {op : BinOp} {t yt ty : TypeId} {x y : Operand} {pos : String} {after : Array Edge} {guard : Option (Nat × Bool)} {n : E} {b : Bool} {w : World} (h : F7 P tm G op t x y = some (n, b)) (hr : aX ρ ls tm a) (hG : al ρ G = true) :
 (execOp a.eval ⟨dst, .binOp op t x y yt, ty, pos, after, guard⟩).run P w = .ok (.value (.bool (!b))) w := by
 unfold F7 at h
 split at h
 ·rename_i f1 a1 c1 hx hy ht
  unfold JJ at ht
  split at ht
  ·rename_i p r v hu
   obtain ⟨fs, cs, hxv, _, _⟩ := aj hx hr hG
   have hyv : a.eval y = .nilFunc := aj hy hr hG
   have heq : (Op.equal t (.func (.func f1) fs.toArray cs.toArray) .nilFunc).run P w = .ok false w := rP w 9999 hu
   split at h
   ·cases h
    simp [execOp, hxv, hyv, eqGuard_at_func, binOp, heq]
   ·cases h
    simp [execOp, hxv, hyv, eqGuard_at_func, binOp, heq]
   ·cases h
  ·cases ht
 ·cases h
end
def zM (P : Program) (tm : aw) (hp : SH) (G : E) (o : Oper) : Option (E × Bool) :=
 match o.op with
 | .binOp op t x y _ => (match cA tm G x, cA tm G y, qi P t with
  | some (.c (.ow l)), some (.c (.di (.slice none 0 0))), true => (match hp[l]? with
   | some ⟨_, _, .row _ _ n _⟩ => (match op with | .eql => some (n, true) | .neq => some (n, false) | _ => none)
   | _ => none)
  | _, _, _ => F7 P tm G op t x y)
 | _ => none
section
variable {P : Program} {ρ : Env} {B : Nat} {w0 w : World} {ls : Ls} {hp : SH} {tm : aw} {a : Act} {G : E} {cf : a8}
theorem CP {o : Oper} {n : E} {b : Bool} (h : zM P tm hp G o = some (n, b)) (hr : aX ρ ls tm a) (hG : al ρ G = true) (hh : aB ρ B w0 ls hp w) :
 ((execOp a.eval o).run P w = .ok (.value (.bool b)) w ∧ aa ρ n = 0) ∨ (execOp a.eval o).run P w = .ok (.value (.bool (!b))) w := by
 obtain ⟨dst, op, ty, pos, after, guard⟩ := o
 unfold zM at h
 simp only at h
 split at h
 ·rename_i bop t x y yt
  split at h
  ·rename_i l hx hy ht
   obtain ⟨e, he⟩ := lX ht
   split at h
   ·rename_i b' ty' sh R n' hi hl
    obtain ⟨A, c, g1, g2, g3, g4⟩ := pk rfl (hh.bA l _ hl)
    obtain ⟨x1, _⟩ := aj hx hr hG
    rw [g1] at x1
    have hxv : a.eval x = .slice A (aa ρ n').toNat c := (Option.some.inj x1).symm
    have hyv : a.eval y = .slice none 0 0 := aj hy hr hG
    have heq := run_equal_slice_nil (P := P) w t e A (aa ρ n').toNat c he
    have hneq := run_neq_slice_nil (P := P) w t e A (aa ρ n').toNat c he
    have heql : (binOp .eql t (.slice A (aa ρ n').toNat c) (.slice none 0 0)).run P w = .ok (.bool A.isNone) w := by
     simp only [binOp]
     simp [heq]
    have hz : A = none → aa ρ n' = 0 := fun hA => by
     subst hA
     by_cases h0 : 0 < (aa ρ n').toNat
     ·obtain ⟨a0, c0, q⟩ := qE rfl (hh.bA l _ hl) h0
      rw [g1] at q
      cases q
     ·omega
    have hg : eqGuard bop t x y (.slice A (aa ρ n').toNat c) (.slice none 0 0) = pure () := eqGuard_at_slice _ _ _ _ _ _ _ _
    split at h
    ·cases h
     cases A with
     | none => exact .inl ⟨by simp [execOp, hxv, hyv, hg, heql], hz rfl⟩
     | some a0 => exact .inr (by simp [execOp, hxv, hyv, hg, heql])
    ·cases h
     cases A with
     | none => exact .inl ⟨by simp [execOp, hxv, hyv, hg, hneq], hz rfl⟩
     | some a0 => exact .inr (by simp [execOp, hxv, hyv, hg, hneq])
    ·cases h
   ·cases h
  ·exact .inr (F8 h hr hG)
 ·cases h
end
end Vc
end Go.Proofs.YtpmfkelglmgddaaGreatDoor
namespace Go.Proofs.YtpmfkelglmgddaaGreatDoor
namespace Vc
open Go Go.RowKit
set_option linter.unusedVariables false
inductive Fr where
 | seq (c : Code)
 | ji (id : Nat)
 | lp (c : Code) (n : Nat)
 | xX
 | inv (L : ba) (h : St) (mv : List (Nat × Nat)) (A : List E) (df : List Nat)
 | act (f : FuncId) (fn : Func) (tm : aw) (df : List Nat) (rd : Option Nat) (all : Bool × Array Oper) (rest : List Oper) (dst : Option Tmp)
 | oP (f : FuncId) (fn : Func) (l : Nat) (ps : Array Tmp) (fE body : Code) (tm : aw) (df : List Nat) (rd : Option Nat)
 | fE (l : Nat) (body : Code)
 | sJ (l : Nat) (tm : aw) (df : List Nat) (rd : Option Nat) (all : Bool × Array Oper) (rest : List Oper) (dst : Option Tmp)
 | pc (f : FuncId) (fn : Func) (tm : aw) (df : List Nat) (rd : Option Nat) (all : Array Oper) (k c n : Nat) (ah : List It)
 | pm (f : FuncId) (fn : Func) (tm : aw) (df : List Nat) (rd : Option Nat) (all : Array Oper) (k n c : Nat) (ps : List Nat) (ah : List It) (done : List (Nat × Tm))
inductive On where
 | code (c : Code)
 | ops (all : Bool × Array Oper) (rest : List Oper)
 | rm
 | ex (id : Nat)
 | ret
def CG : List (E × Ow) → Fm → Fm
 | [], f => f
 | (G, o) :: r, f => MA G o (CG r f)
def CI (P : Program) (cf : a8) (sm : Sm) (hp : SH) (neg : List E) (all : Array Oper) : List Oper → aw → List Oper × aw
 | [], tm => ([], tm)
 | o :: r, tm => match guardOf tm all neg o.guard with
  | some none => CI P cf sm hp neg all r (bB tm o.dst oO)
  | some (some G) => (match xJ P cf sm tm hp G o with
   | some (v, ow) => if ow.kL then CI P cf sm hp neg all r (bB tm o.dst ⟨G, nz neg v⟩) else (o :: r, tm)
   | none => (o :: r, tm))
  | none => (o :: r, tm)
def vp : Tr → Nat → List SV → Tr
 | t, _, [] => t
 | t, i, v :: r => vp (t.set i ⟨.bc true, v⟩) (i + 1) r
def iV (n : Nat) (vs : List SV) : aw := ⟨vs.length + (n - vs.length), vp (Tr.full oO 11) 0 vs⟩
def L9 (P : Program) (cf : a8) (sm : Sm) (all : Array Oper) (l : List Oper) (s : St) : List Oper × St :=
 match CI P cf sm s.hp s.neg all l s.tm with
 | (r, tm) => (r, ⟨tm, s.hp, s.neg⟩)
def xg (p : PV) : SV := .c (.ptr p.1 p.2)
def rE (cf : a8) (tm : aw) (G : E) (o : Oper) : Option (FuncId × Func × Code × List SV) :=
 match o.op with
 | .call { callee := .value f, args, .. } => (match cA tm G f, kS tm G args.toList with
  | some (.c (.fn f first cap)), some vs => (match lA cf.fns f with
   | some fn => (match fn.body with | some c => some (f, fn, c, first.map xg ++ vs ++ cap.map xg) | none => none)
   | none => none)
  | _, _ => none)
 | _ => none
def ry (cf : a8) (neg : List E) (ops : Array Oper) (tm : aw) (c n : Nat) (ah : List It) : Option (FuncId × Func × Code × List SV) :=
 match ops[c]? with
 | some o => (match guardOf (dN ops ah o.after.toList (aV ops n tm)) ops neg o.guard with
  | some (some G) => if lJ G then rE cf (dN ops ah o.after.toList (aV ops n tm)) G o else none
  | _ => none)
 | none => none
def CM (P : Program) (cf : a8) (sm : Sm) (hp : SH) (neg : List E) (ops : Array Oper) (tm : aw) (k c : Nat) : Nat → Nat → Option (Nat × List It)
 | 0, _ => none
 | d + 1, n => if fY ops tm k c n then (match ru P cf sm hp neg ops tm k c n with
  | some ah => some (n, ah)
  | none => CM P cf sm hp neg ops tm k c d (n + 1)) else CM P cf sm hp neg ops tm k c d (n + 1)
def rv (P : Program) (cf : a8) (sm : Sm) (hp : SH) (neg : List E) (ops : Array Oper) (tm : aw) (k : Nat) : Option (Nat × Nat × List It × FuncId × Func × Code × List SV) :=
 match (sK P cf sm hp neg ops tm k (mG [] (ops.toList.drop k) + k)).ah.length with
 | c => (match CM P cf sm hp neg ops tm k c (ops.size - c) (c + 1) with
  | some (n, ah) => (match ry cf neg ops tm c n ah with
   | some r => some (c, n, ah, r)
   | none => none)
  | none => none)
def ki : List It → List It → Bool
 | [], [] => true
 | .val t :: r, .val u :: s => n5 t u && ki r s
 | _, _ => false
theorem iH : ∀ {a b : List It}, ki a b = true → a = b
 | [], [], _ => rfl
 | .val t :: r, .val u :: s, h => by
  simp only [ki, Bool.and_eq_true] at h
  rw [mC h.1, iH h.2]
 | [], _ :: _, h => by cases h
 | .val _ :: _, [], h => by cases h
 | .val _ :: _, .new _ _ _ :: _, h => by cases h
 | .val _ :: _, .res _ _ :: _, h => by cases h
 | .val _ :: _, .put _ _ :: _, h => by cases h
 | .put _ _ :: _, _, h => by cases h
 | .new _ _ _ :: _, _, h => by cases h
 | .res _ _ :: _, _, h => by cases h
def IA (P : Program) (cf : a8) (tm : aw) (hp : SH) (G : E) (o : Oper) : Option (SV × SH × Ow) := match Bk P tm hp G o with
 | some (some v, hp') => some (v, hp', ⟨[], none⟩)
 | some (none, hp') => some (.c .kW, hp', ⟨[], none⟩)
 | none => Ox P cf tm hp G o
def xu (P : Program) (cf : a8) (hp : SH) (neg : List E) (ops : Array Oper) (tm : aw) (c n : Nat) (ah : List It) : Option (SV × SH × Ow) :=
 match ops[c]? with
 | some o => (match guardOf (dN ops ah o.after.toList (aV ops n tm)) ops neg o.guard with
  | some (some G) => if lJ G then IA P cf (dN ops ah o.after.toList (aV ops n tm)) hp G o else none
  | _ => none)
 | none => none
def rG (P : Program) (cf : a8) (sm : Sm) (hp : SH) (neg : List E) (ops : Array Oper) (tm : aw) (k : Nat) : Option (Nat × Nat × List It × SV × SH × Ow) :=
 match (sK P cf sm hp neg ops tm k (mG [] (ops.toList.drop k) + k)).ah.length with
 | c => (match CM P cf sm hp neg ops tm k c (ops.size - c) (c + 1) with
  | some (n, ah) => (match xu P cf hp neg ops tm c n ah with
   | some (v, hp', ow) => (match ru P cf sm hp' neg ops tm k c n with
    | some its' => if ki ah its' then some (c, n, ah, v, hp', ow) else none
    | none => none)
   | none => none)
  | none => none)
def JC (ops : Array Oper) (cs pd : List Nat) : Bool := cs.all fun j => match ops[j]? with | some o => o.after.toList.any fun e => Region.binds .any e && pd.any (Nat.beq e.on) | none => false
def IV (P : Program) (cf : a8) (sm : Sm) (hp : SH) (neg : List E) (ops : Array Oper) (tmM : aw) : List Oper → List It → List Nat
 | [], _ => []
 | o :: r, acc => match jK P cf sm hp neg ops tmM [o] acc [] with
  | q => (match q.ah[acc.length]? with
   | some (.val t) => IV P cf sm hp neg ops tmM r (acc ++ [.val t])
   | _ => acc.length :: IV P cf sm hp neg ops tmM r (acc ++ [.val gw]))
def oQ (l : List Nat) : List (Nat × Tm) := l.map fun j => (j, gw)
def iW (ops : Array Oper) (ah : List It) (c : Nat) : List (Nat × Tm) := match ops[c]? with
 | some o => o.after.toList.filterMap fun e => if Region.binds .any e then (match ah[e.on]? with | some (.val t) => some (e.on, t) | _ => none) else none
 | none => []
def sL (P : Program) (cf : a8) (sm : Sm) (neg : List E) (ops : Array Oper) (tm : aw) (k n : Nat) : List Nat → List (Nat × Tm) → SH → Option (List It × SH × List (E × Ow))
 | [], done, hp => (match jI P cf sm hp neg ops (aV ops n tm) done ((ops.toList.take n).drop k) (bz ops tm k) [] with
  | some (ah, os) => some (ah, hp, os)
  | none => none)
 | c :: r, done, hp => (match jI P cf sm hp neg ops (aV ops n tm) (done ++ oQ (c :: r)) ((ops.toList.take n).drop k) (bz ops tm k) [] with
  | some (ah, os) => (match xu P cf hp neg ops tm c n ah with
   | some (v, hp', ow) => (match jI P cf sm hp' neg ops (aV ops n tm) (((c, ⟨.bc true, v⟩) :: (iW ops ah c ++ done)) ++ oQ r) ((ops.toList.take n).drop k) (bz ops tm k) [] with
    | some (its', _) => if ki (ah.set c (.val ⟨.bc true, v⟩)) its' && JC ops r (c :: r) && !(r.any (Nat.beq c)) then (match sL P cf sm neg ops tm k n r ((c, ⟨.bc true, v⟩) :: (iW ops ah c ++ done)) hp' with
     | some (itsF, hpF, ows) => some (itsF, hpF, os ++ ((.bc true, ow) :: ows))
     | none => none) else none
    | none => none)
   | none => none)
  | none => none)
def CQ (P : Program) (cf : a8) (sm : Sm) (hp : SH) (neg : List E) (ops : Array Oper) (tm : aw) (k c : Nat) : Nat → Nat → Option (Nat × List It × SH × List (E × Ow))
 | 0, _ => none
 | d + 1, n => if fY ops tm k c n then (match IV P cf sm hp neg ops (aV ops n tm) ((ops.toList.take n).drop k) (bz ops tm k) with
  | ps => if ps.all (fun c => Nat.ble k c && Nat.blt c n) then (match sL P cf sm neg ops tm k n ps [] hp with
   | some r => some (n, r)
   | none => CQ P cf sm hp neg ops tm k c d (n + 1)) else CQ P cf sm hp neg ops tm k c d (n + 1)) else CQ P cf sm hp neg ops tm k c d (n + 1)
def rJ (P : Program) (cf : a8) (sm : Sm) (hp : SH) (neg : List E) (ops : Array Oper) (tm : aw) (k : Nat) : Option (Nat × List It × SH × List (E × Ow)) :=
 match (sK P cf sm hp neg ops tm k (mG [] (ops.toList.drop k) + k)).ah.length with
 | c => CQ P cf sm hp neg ops tm k c (ops.size - c) (c + 1)
def IW (ops : Array Oper) (c : Nat) : Bool := match ops[c]? with
 | some o => (match o.op with | .call { callee := .value _, .. } => true | _ => false)
 | none => false
def IB (P : Program) (cf : a8) (sm : Sm) (hp : SH) (neg : List E) (ops : Array Oper) (tm : aw) (k c : Nat) : Nat → Nat → Option (Nat × List Nat)
 | 0, _ => none
 | d + 1, n => if fY ops tm k c n then (match IV P cf sm hp neg ops (aV ops n tm) ((ops.toList.take n).drop k) (bz ops tm k) with
  | ps => if ps.all (fun c => Nat.ble k c && Nat.blt c n) && (ps.any (IW ops) || !ps.isEmpty) then some (n, ps) else none) else IB P cf sm hp neg ops tm k c d (n + 1)
def zA (P : Program) (cf : a8) (sm : Sm) (hp : SH) (neg : List E) (ops : Array Oper) (tm : aw) (k : Nat) : Option (Nat × List Nat) :=
 match (sK P cf sm hp neg ops tm k (mG [] (ops.toList.drop k) + k)).ah.length with
 | c => IB P cf sm hp neg ops tm k c (ops.size - c) (c + 1)
def JB (tm : aw) (G : E) (o : Oper) : Option (Nat × List SV) :=
 match o.op with
 | .call { callee := .value f, args, .. } => (match cA tm G f, kS tm G args.toList with
  | some (.c (.Gv l)), some vs => some (l, vs)
  | _, _ => none)
 | _ => none
def tL : aw → List Tmp → List SV → Option aw
 | tm, [], [] => some tm
 | tm, p :: ps, v :: vs => tL (bB tm (some p) ⟨.bc true, v⟩) ps vs
 | _, _, _ => none
def xn (l : Nat) : List Fr → Option (Array Tmp × Code × Code × aw)
 | [] => none
 | .oP _ _ l' ps fE body tm _ _ :: K => if Nat.beq l' l then some (ps, fE, body, tm) else xn l K
 | _ :: K => xn l K
def fo (f0 : FuncId) : List Fr → Option Nat → List Nat
 | [], _ => [f0]
 | .act f .. :: K, none => f :: fo f0 K none
 | .pc f .. :: K, none => f :: fo f0 K none
 | .pm f .. :: K, none => f :: fo f0 K none
 | .oP f _ l .. :: K, none => f :: fo f0 K none
 | .oP _ _ l .. :: K, some l' => if Nat.beq l l' then fo f0 K none else fo f0 K (some l')
 | .sJ l .. :: K, none => fo f0 K (some l)
 | _ :: K, s => fo f0 K s
def rR : List Fr → Nat
 | .ji id :: _ => id
 | .seq _ :: K => rR K
 | .xX :: K => rR K
 | _ => 0
def BF : List Fr → List Nat
 | [] => []
 | .lp _ n :: K => (200 - n) :: BF K
 | _ :: K => BF K
def preB : List Nat → List Nat → Bool
 | [], _ => true
 | a :: r, b :: s => Nat.beq a b && preB r s
 | _, _ => false
def JK : List ba → List Nat → Option ba
 | [], _ => none
 | L :: r, k => if preB L.path k then some L else JK r k
def JL (c : Code) (s : St) : List ba → List Nat → Option ba
 | [], _ => none
 | L :: r, k => if preB L.path k && (vx L c s).isSome then some L else JL c s r k
def mF : List (Nat × Nat) → List (Nat × Nat) → Bool
 | [], [] => true
 | a :: r, b :: s => Nat.beq a.1 b.1 && mF r s
 | _, _ => false
def tN : List Nat → List Nat → Bool
 | [], [] => true
 | a :: r, b :: s => Nat.beq a b && tN r s
 | _, _ => false
def Jy (p : Nat → Bool) : Option Nat → Bool
 | none => true
 | some l => p l
def sq (n : Nat) (mv : List (Nat × Nat)) (m : Nat) : List Fr → Bool
 | [] => true
 | .inv L h mv0 A df0 :: K => Nat.ble h.hp.length n && (mv.all fun x => Nat.ble h.hp.length x.1 || mv0.any fun y => Nat.beq y.1 x.1) && Nat.ble (L.m + L.k) m && A.all (E.eB m) && df0.all (cB n mv) && sq n mv m K
 | .act _ _ tm df rd _ _ _ :: K => tm.av (cB n mv) m && df.all (cB n mv) && Jy (cB n mv) rd && sq n mv m K
 | .oP _ _ l _ _ _ tm df rd :: K => cB n mv l && tm.av (cB n mv) m && df.all (cB n mv) && Jy (cB n mv) rd && sq n mv m K
 | .fE l _ :: K => cB n mv l && sq n mv m K
 | .sJ l tm df rd _ _ _ :: K => cB n mv l && tm.av (cB n mv) m && df.all (cB n mv) && Jy (cB n mv) rd && sq n mv m K
 | .pc _ _ tm df rd _ _ _ _ ah :: K => tm.av (cB n mv) m && ah.all (It.av (cB n mv) m) && df.all (cB n mv) && Jy (cB n mv) rd && sq n mv m K
 | .pm _ _ tm df rd _ _ _ _ _ ah _ :: K => tm.av (cB n mv) m && ah.all (It.av (cB n mv) m) && df.all (cB n mv) && Jy (cB n mv) rd && sq n mv m K
 | .seq _ :: K => sq n mv m K
 | .ji _ :: K => sq n mv m K
 | .lp _ _ :: K => sq n mv m K
 | .xX :: K => sq n mv m K
def aw.fh (p : Nat → Bool) (m : Nat) (tm : aw) : aw := match tm with | ⟨n, u⟩ => ⟨n, u.map fun t => if t.av p m then t else gw⟩
def Fq (p : Nat → Bool) (m : Nat) : Fr → Fr
 | .act f fn tm df rd all rest dst => .act f fn (tm.fh p m) df rd all rest dst
 | .oP f fn l ps fE body tm df rd => .oP f fn l ps fE body (tm.fh p m) df rd
 | .sJ l tm df rd all rest dst => .sJ l (tm.fh p m) df rd all rest dst
 | x => x
def rn (L : ba) (d : Hd) (K : List Fr) : List Fr := if sq d.h.hp.length d.mv L.m K then K else K.map (Fq (cB d.h.hp.length d.mv) L.m)
def ec (h : SH) (x : Nat × Nat) : Bool := match h[x.1]? with | some ⟨_, _, .bW ..⟩ => false | some _ => true | none => false
def FB (L : ba) (d : Hd) (neg : List E) (K : List Fr) (df : List Nat) (rd : Option Nat) : Bool :=
 Nat.beq d.θ.length L.k && d.A.all (E.eB L.m) && neg.all (E.eB L.m) && d.mv.all (ec d.h.hp) &&
 d.h.tm.av (fun _ => true) (L.m + L.k) && d.h.hp.all (HE.av (fun _ => true) (L.m + L.k)) && sq d.h.hp.length d.mv L.m K && df.all (cB d.h.hp.length d.mv) && Jy (cB d.h.hp.length d.mv) rd
def zt (h : St) : List dV → Fm → Fm
 | [], f => f
 | x :: r, f => (match x.get h.tm h.hp with
  | some (.int _ e lo hi) => .imp (.and (.le (.ic lo) e) (.le e (.ic hi))) (zt h r f)
  | some (.ow l) => (match h.hp[l]? with
   | some ⟨_, _, .row sh R n hi⟩ => .oJ sh R n hi (zt h r f)
   | _ => zt h r f)
  | _ => zt h r f)
def ba.ps (L : ba) : List dV := L.vars.map Prod.fst ++ L.rows.map Prod.fst
def rl (L : ba) (A : List E) : E := aL (A ++ CH L.m L.k)
def FA (L : ba) (h : St) (mv : List (Nat × Nat)) (A : List E) (s : St) : Option Fm :=
 match zH (s.tm, s.hp) L.vars, JG (h.tm, h.hp) (s.tm, s.hp) L with
 | some t, some (u, mv') => if mF mv mv' && Nat.beq (t ++ u).length L.k then (match inst L.m mv' (t ++ u) h s with
  | some bg => some (Cy (.bc true) bg (.and (.pre L.pre (aL (A ++ (t ++ u)))) (.and (.yJ (.lt (.app L.yV (aL (A ++ (t ++ u)))) (.app L.yV (rl L A)))) (.yJ (.lt (.ic 0) (.app L.yV (rl L A)))))))
  | none => none) else none
 | _, _ => none
def vv : SH → List Nat → Option SH
 | hp, [] => some hp
 | hp, d :: r => (match hp[d]? with
  | some ⟨b, ty, .mark⟩ => vv (hp.set d ⟨b, ty, .dead⟩) r
  | _ => none)
def kC (P : Program) (cf : a8) (s : St) (df : List Nat) (fn : Func) : Option (SV × SH) :=
 match vv s.hp df with
 | some hp => (match Fj P cf.bL s.tm hp fn.results.toList with | some v => some (v, hp) | none => none)
 | none => none
def nJ (fn : Func) (vs : List SV) : St := ⟨iV fn.ntmps vs, [], []⟩
def gj (fn : Func) (vs : List SV) (hp : SH) : St := ⟨iV fn.ntmps vs, hp, []⟩
def fm (hp : SH) (l : Nat) : Option (Bool × TypeId × LoopState × Option (Option Nat)) := match hp[l]? with | some ⟨b, ty, .bW st pd⟩ => some (b, ty, st, pd) | _ => none
def isReady : LoopState × Option (Option Nat) → Bool
 | (.ready, none) => true
 | _ => false
def rA : LoopState → Bool
 | .busy => true
 | _ => false
abbrev Rec := FuncId → Func → On → List Fr → St → List Nat → Option Nat → Fm
def NL : E → Option (Int × Int)
 | .mod _ (.ic m) => if 0 < m then some (0, m - 1) else none
 | _ => none
def rB (tm : aw) (e : E) : Option (E × Int × Nat) := match (match NL e with | some r => some r | none => xc tm e tm.n) with
 | some (lo, hi) => if decide (lo ≤ hi) && decide (hi ≤ lo + 8) then some (e, lo, (hi - lo + 1).toNat) else none
 | none => none
def rC (g : E → Fm) (e : E) : Int → Nat → Fm
 | _, 0 => .Dd
 | lo, n + 1 => .and (.imp (.eq e (.ic lo)) (g (.eq e (.ic lo)))) (rC g e (lo + 1) n)
def zw (cf : a8) (tm : aw) (key : List Nat) : Option (E × Int × Nat) := match cf.Rc.find? fun x => tN x.1 key with
 | some (_, d) => (match tm.get d with
  | some ⟨g, .c (.int _ e _ _)⟩ => (match eO e with | none => if lJ g then rB tm e else none | some _ => none)
  | _ => none)
 | none => none
def rD (P : Program) (cf : a8) (sm : Sm) (rec : Rec) (f0 : FuncId) (fn0 : Func) (c : Code) (K : List Fr) (s : St) (df : List Nat) (rd : Option Nat) : Fm :=
 match c with
  | .skip => rec f0 fn0 .rm K s df rd
  | .label _ => rec f0 fn0 .rm K s df rd
  | .seq x y => rec f0 fn0 (.code x) (.seq y :: K) s df rd
  | .block id c => (match zw cf s.tm (id :: fo f0 K none) with
   | some (e, lo, n) => rC (fun g => rec f0 fn0 (.code c) (.ji id :: K) (bf g s) df rd) e lo n
   | none => rec f0 fn0 (.code c) (.ji id :: K) s df rd)
  | .loop c => (match JK cf.loops (rR K :: (fo f0 K none ++ BF K)) with
   | none => rec f0 fn0 (.code c) (.lp c 200 :: K) s df rd
   | some _ => (match JL c s cf.loops (rR K :: (fo f0 K none ++ BF K)) with
   | none => .c9
   | some L => (match vx L c s with
    | none => .c9
    | some d => (match inst L.m d.mv d.θ d.h d.s1 with
     | none => .c9
     | some bg => if FB L d d.h.neg (rn L d K) df rd then Cy (.bc true) bg (.and (.pre L.pre (aL (d.A ++ d.θ))) (L5 L.m L.k (zt d.h L.ps (.oI L.pre (rl L d.A) (rec f0 fn0 (.code c) (.inv L d.h d.mv d.A df :: rn L d K) d.h df rd))))) else .c9))))
  | .scope c => rec f0 fn0 (.code c) (.xX :: K) s df rd
  | .exit id => rec f0 fn0 (.ex id) K s df rd
  | .ret => rec f0 fn0 .ret K s df rd
  | .cond c x y => (match cA s.tm (.bc true) c with
   | some (.c (.bool e)) =>
    if lJ e then rec f0 fn0 (.code x) K s df rd else if Om e then rec f0 fn0 (.code y) K s df rd else
    (match line P cf s.hp x s.tm, line P cf s.hp y s.tm with
      | some tx, some ty => rec f0 fn0 .rm K ⟨vo e tx ty, s.hp, s.neg⟩ df rd
      | _, _ => .and (.imp e (rec f0 fn0 (.code x) K (bf e s) df rd)) (.imp (bp e) (rec f0 fn0 (.code y) K (bf (bp e) s) df rd)))
   | _ => .c9)
  | .region _ ops false => rec f0 fn0 (.ops (false, ops) ops.toList) K s df rd
  | .region _ ops true => rec f0 fn0 (.ops (true, ops) ops.toList) K s df rd
  | .rangeFunc g ps fE body => (match cA s.tm (.bc true) g with
   | some (.c (.fn f [] cap)) => (match lA cf.fns f with
    | some fn => (match fn.body with
     | some c => (match rd with
      | none => rec f0 fn0 (.code c) (.oP f fn (s.hp.length + 1) ps fE body s.tm (s.hp.length :: df) none :: K) ⟨iV fn.ntmps ([.c (.Gv (s.hp.length + 1))] ++ cap.map xg), s.hp ++ [⟨true, 0, .mark⟩] ++ [⟨true, 0, .bW .ready none⟩], s.neg⟩ [] none
      | some l0 => (match fm s.hp l0 with
       | some _ => rec f0 fn0 (.code c) (.oP f fn s.hp.length ps fE body s.tm df (some l0) :: K) ⟨iV fn.ntmps ([.c (.Gv s.hp.length)] ++ cap.map xg), s.hp ++ [⟨true, 0, .bW .ready none⟩], s.neg⟩ [] none
       | none => .c9))
     | none => .c9)
    | none => .c9)
   | _ => .c9)
  | _ => .c9
def FD (tm : aw) (hp : SH) (G : E) (o : Oper) : Option (Nat × TypeId × E × E × Int) := match o.op with
 | .next x true => (match cA tm G x with
  | some (.c (.ptr l 0)) => (match hp[l]? with | some ⟨true, ty, .iter a p hi⟩ => some (l, ty, a, p, hi) | _ => none)
  | _ => none)
 | _ => none
def mI (P : Program) (cf : a8) (sm : Sm) (rec : Rec) (f0 : FuncId) (fn0 : Func) (all : Bool × Array Oper) (l : List Oper) (K : List Fr) (s : St) (df : List Nat) (rd : Option Nat) : Fm :=
 match l with
  | [] => rec f0 fn0 .rm K s df rd
  | o :: rest => if tC all (o :: rest) then (match guardOf s.tm all.2 s.neg o.guard with
   | none => .c9
   | some none => rec f0 fn0 (.ops all rest) K ⟨bB s.tm o.dst oO, s.hp, s.neg⟩ df rd
   | some (some G) => (match xJ P cf sm s.tm s.hp G o with
    | some (v, ow) => MA G ow (rec f0 fn0 (.ops all rest) K ⟨bB s.tm o.dst ⟨G, nz s.neg v⟩, s.hp, s.neg⟩ df rd)
    | none =>
     if lJ G then (match Bk P s.tm s.hp G o with
      | some (some v, hp') => rec f0 fn0 (.ops all rest) K ⟨bB s.tm o.dst ⟨.bc true, v⟩, hp', s.neg⟩ df rd
      | some (none, hp') => rec f0 fn0 (.ops all rest) K ⟨bB s.tm o.dst oO, hp', s.neg⟩ df rd
      | none => (match Ox P cf s.tm s.hp G o with
       | some (v, hp', ow) => MA G ow (rec f0 fn0 (.ops all rest) K ⟨bB s.tm o.dst ⟨.bc true, v⟩, hp', s.neg⟩ df rd)
       | none => (match zM P s.tm s.hp G o with
       | some (n, b) => .and (.imp (.eq n (.ic 0)) (rec f0 fn0 (.ops all rest) K ⟨bB s.tm o.dst ⟨.bc true, .c (.bool (.bc b))⟩, s.hp, s.neg⟩ df rd)) (rec f0 fn0 (.ops all rest) K ⟨bB s.tm o.dst ⟨.bc true, .c (.bool (.bc (!b)))⟩, s.hp, s.neg⟩ df rd)
       | none => (match FD s.tm s.hp G o with
       | some (l, ty, x, p, hi) => .and (.imp (.lt p x) (rec f0 fn0 (.ops all rest) K ⟨bB s.tm o.dst ⟨.bc true, FF x p hi⟩, s.hp.set l ⟨true, ty, .iter x (.add p (.EC x p)) hi⟩, s.neg⟩ df rd)) (.imp (bp (.lt p x)) (rec f0 fn0 (.ops all rest) K ⟨bB s.tm o.dst ⟨.bc true, FG⟩, s.hp, s.neg⟩ df rd))
       | none => (match rE cf s.tm G o with
        | some (f, fn, c, vs) => rec f0 fn0 (.code c) (.act f fn s.tm df rd all rest o.dst :: K) ⟨iV fn.ntmps vs, s.hp, s.neg⟩ [] none
        | none => (match JB s.tm G o with
         | some (l, vs) => (match xn l K, fm s.hp l with
          | some (ps, fE, body, tm), some (_, _, st, pd) => if isReady (st, pd) then (match tL tm ps.toList vs with
           | some tm' => rec f0 fn0 (.code fE) (.fE l body :: .sJ l s.tm df rd all rest o.dst :: K) ⟨tm', s.hp, s.neg⟩ [] (some l)
           | none => .c9) else .c9
          | _, _ => .c9)
         | none => .c9))))))
     else .and (.imp G (rec f0 fn0 (.ops all (o :: rest)) K (bf G s) df rd))
      (.imp (bp G) (rec f0 fn0 (.ops all rest) K ⟨bB (bf (bp G) s).tm o.dst oO, (bf (bp G) s).hp, G :: (bf (bp G) s).neg⟩ df rd)))) else .c9
def Mj (neg : List E) (ops : Array Oper) (tm : aw) (k : Nat) (l : List Oper) : Option E := l.findSome? fun o => match o.guard with
 | some (i, _) => if Nat.blt i k then (match guardOf tm ops neg o.guard with
  | some (some G) => if lJ G || eC G neg || eC (bp G) neg then none else some G
  | _ => none) else none
 | none => none
def NS (P : Program) (t : TypeId) : Bool := match P.underlying t with | some (.array _ _) => true | _ => false
def NT (P : Program) (tm : aw) (t : TypeId) (i : Operand) : Option E := if NS P t then (match cA tm (.bc true) i with
 | some (.c (.int _ e _ _)) => (match eO e with | none => some e | some _ => none)
 | _ => none) else none
def QO (tm : aw) (i : Operand) : Option E := match cA tm (.bc true) i with
 | some (.c (.int _ e _ _)) => (match eO e with | none => some e | some _ => none)
 | _ => none
def idxOf (P : Program) (tm : aw) (o : Oper) : Option E := match o.op with
 | .indexAddr t s i => (match cA tm (.bc true) s with | some (.c (.sc ..)) => QO tm i | _ => NT P tm t i)
 | .index t _ i => NT P tm t i
 | _ => none
def zy (P : Program) (tm : aw) : List Oper → Option (E × Int × Nat)
 | [] => none
 | o :: _ => (match idxOf P tm o with | some e => rB tm e | none => none)
def zz (P : Program) (cf : a8) (sm : Sm) (hp : SH) (neg : List E) (ops : Array Oper) (tm : aw) (k : Nat) (l : List Oper) : Option (E × Int × Nat) :=
 match sK P cf sm hp neg ops tm k (mG [] (ops.toList.drop k) + k) with
 | q => l.findSome? fun o => match idxOf P (dN ops q.ah o.after.toList (aV ops ops.size tm)) o with
  | some e => rB tm e
  | none => none
def og (c : Nat) (ps : List Nat) : List Nat := ps.filter fun x => !(Nat.beq c x)
def L6 : List Fm → Fm
 | [] => .Dd
 | [f] => f
 | f :: g :: r => .and f (L6 (g :: r))
def fc (ops : Array Oper) (c : Nat) : Nat → List Bool
 | 0 => []
 | n + 1 => match fc ops c n with
  | r => r ++ [match ops[n]? with
   | some o => o.after.toList.any fun e => Region.binds .any e && (Nat.beq e.on c || r.getD e.on false)
   | none => false]
def rK (late : List Bool) (c : Nat) : Nat → List It → List It → Bool
 | _, [], [] => true
 | j, .val t :: r, .val u :: s => ((late.getD j false && !(Nat.beq j c)) || n5 t u) && rK late c (j + 1) r s
 | _, _, _ => false
theorem xx {late : List Bool} {c : Nat} : ∀ {a b : List It} {k : Nat}, rK late c k a b = true → a.length = b.length ∧ (∀ it ∈ b, it.isVal = true) ∧ ∀ j, (late.getD (k + j) false = true ∧ k + j ≠ c) ∨ a[j]? = b[j]?
 | [], [], k, _ => ⟨rfl, fun it h => by simp at h, fun j => .inr rfl⟩
 | .val t :: r, .val u :: s, k, h => by
  simp only [rK, Bool.and_eq_true, Bool.or_eq_true, Bool.not_eq_true'] at h
  obtain ⟨h1, h2⟩ := h
  obtain ⟨i1, i2, i3⟩ := xx h2
  refine ⟨by simp [i1], fun it hit => ?_, fun j => ?_⟩
  ·rcases List.mem_cons.1 hit with rfl | hit
   ·rfl
   ·exact i2 it hit
  ·cases j with
   | zero =>
    rcases h1 with ⟨h3, h4⟩ | h3
    ·exact .inl ⟨h3, fun e => by
      have e : k = c := e
      subst e; simp at h4⟩
    ·right; rw [mC h3]; rfl
   | succ j =>
    have := i3 j
    rw [show k + 1 + j = k + (j + 1) by omega] at this
    simpa using this
 | [], .val _ :: _, _, h => by cases h
 | .val _ :: _, [], _, h => by cases h
 | .val _ :: _, .new _ _ _ :: _, _, h => by cases h
 | .val _ :: _, .res _ _ :: _, _, h => by cases h
 | .val _ :: _, .put _ _ :: _, _, h => by cases h
 | .put _ _ :: _, _, _, h => by cases h
 | .new _ _ _ :: _, _, _, h => by cases h
 | .res _ _ :: _, _, _, h => by cases h
 | [], .new _ _ _ :: _, _, h => by cases h
 | [], .res _ _ :: _, _, h => by cases h
 | [], .put _ _ :: _, _, h => by cases h
theorem pA {ops : Array Oper} {c : Nat} {L : Array Bool} (hc : L.getD c false = false) (hcl : ∀ j o, ops[j]? = some o → L.getD j false = true → ∀ e ∈ o.after, Region.binds .any e = true → L.getD e.on false = true) : ∀ (n j : Nat), (fc ops c n).getD j false = true → L.getD j false = false
 | 0, j, h => by simp [fc] at h
 | n + 1, j, h => by
  simp only [fc] at h
  have hlen : ∀ m, (fc ops c m).length = m := fun m => by
   induction m with
   | zero => rfl
   | succ m ih => simp only [fc, List.length_append, ih, List.length_singleton]
  rw [List.getD_eq_getElem?_getD] at h
  by_cases hj : j < n
  ·rw [List.getElem?_append_left (by rw [hlen]; exact hj), ← List.getD_eq_getElem?_getD] at h
   exact pA hc hcl n j h
  ·rw [List.getElem?_append_right (by rw [hlen]; omega), hlen] at h
   by_cases hjn : j = n
   ·subst hjn
    rw [Nat.sub_self] at h
    simp only [List.getElem?_cons_zero, Option.getD_some] at h
    split at h
    ·rename_i o ho
     obtain ⟨e, he, h2⟩ := List.any_eq_true.1 h
     simp only [Bool.and_eq_true, Bool.or_eq_true] at h2
     obtain ⟨hb, h3⟩ := h2
     cases hx : L.getD j false with
     | false => rfl
     | true =>
      have h4 := hcl j o ho hx e (by simpa using he) hb
      rcases h3 with h3 | h3
      ·rw [Nat.eq_of_beq_eq_true h3, hc] at h4; cases h4
      ·rw [pA hc hcl j e.on h3] at h4; cases h4
    ·cases h
   ·have : j - n ≠ 0 := by omega
    obtain ⟨m, hm⟩ := Nat.exists_eq_succ_of_ne_zero this
    rw [hm] at h
    simp at h
def IE (ops : Array Oper) (n : Nat) (ps : List Nat) (c : Nat) : Bool := ps.any fun p => !(Nat.beq p c) && (fc ops p n).getD c false
theorem tQ {ops : Array Oper} {c : Nat} : ∀ (n j : Nat), (fc ops c n).getD j false = true → ∃ o, ops[j]? = some o ∧ ∃ e ∈ o.after, Region.binds .any e = true ∧ (e.on = c ∨ ∃ m, (fc ops c m).getD e.on false = true)
 | 0, j, h => by simp [fc] at h
 | n + 1, j, h => by
  simp only [fc] at h
  have hlen : ∀ m, (fc ops c m).length = m := fun m => by
   induction m with
   | zero => rfl
   | succ m ih => simp only [fc, List.length_append, ih, List.length_singleton]
  rw [List.getD_eq_getElem?_getD] at h
  by_cases hj : j < n
  ·rw [List.getElem?_append_left (by rw [hlen]; exact hj), ← List.getD_eq_getElem?_getD] at h
   exact tQ n j h
  ·rw [List.getElem?_append_right (by rw [hlen]; omega), hlen] at h
   by_cases hjn : j = n
   ·subst hjn
    rw [Nat.sub_self] at h
    simp only [List.getElem?_cons_zero, Option.getD_some] at h
    split at h
    ·rename_i o ho
     obtain ⟨e, he, h2⟩ := List.any_eq_true.1 h
     simp only [Bool.and_eq_true, Bool.or_eq_true] at h2
     obtain ⟨hb, h3⟩ := h2
     exact ⟨o, ho, e, by simpa using he, hb, h3.imp Nat.eq_of_beq_eq_true fun h => ⟨j, h⟩⟩
    ·cases h
   ·have : j - n ≠ 0 := by omega
    obtain ⟨m, hm⟩ := Nat.exists_eq_succ_of_ne_zero this
    rw [hm] at h
    simp at h
def L7 (P : Program) (cf : a8) (sm : Sm) (hp : SH) (neg : List E) (ops : Array Oper) (tm : aw) (c n : Nat) (ah : List It) : Option (SV × SH × Ow) :=
 match ops[c]? with
 | some o => (match guardOf (dN ops ah o.after.toList (aV ops n tm)) ops neg o.guard with
  | some (some G) => if lJ G then (match IA P cf (dN ops ah o.after.toList (aV ops n tm)) hp G o with
   | some r => some r
   | none => (match xJ P cf.q sm (dN ops ah o.after.toList (aV ops n tm)) hp G o with
    | some (v, ow) => some (v, hp, ow)
    | none => none)) else none
  | _ => none)
 | none => none
def JM (ops : Array Oper) (j : Nat) : Bool := match ops[j]? with
 | some o => (match o.op with | .move _ | .assign _ | .extract .. => true | _ => false)
 | none => false
def II (P : Program) (cf : a8) (sm : Sm) (hp : SH) (neg : List E) (all : Array Oper) (tm : aw) (k n c : Nat) (its0 : List It) (done : List (Nat × Tm)) (ps : List Nat) : Bool :=
 match jI P cf sm hp neg all (aV all n tm) (done ++ oQ ps) ((all.toList.take n).drop k) (bz all tm k) [] with
 | some (its', _) => rK (fc all c n) c 0 its0 its'
 | none => false
def IG (P : Program) (cf : a8) (sm : Sm) (hp : SH) (neg : List E) (all : Array Oper) (tm : aw) (k n c : Nat) (its0 : List It) (done : List (Nat × Tm)) (ps : List Nat) : Option (List Nat) :=
 if cf.ord && II P cf sm hp neg all tm k n c its0 done (ps.filter fun j => !JM all j) then some (ps.filter fun j => !JM all j) else if II P cf sm hp neg all tm k n c its0 done ps then some ps else none
def gv (P : Program) (cf : a8) (sm : Sm) (rec : Rec) (f0 : FuncId) (fn0 : Func) (neg : List E) (all : Array Oper) (tm : aw) (k n : Nat) (df : List Nat) (rd : Option Nat) (K : List Fr) : Nat → List Nat → List (Nat × Tm) → SH → Fm
 | _, [], done, hp => (match jI P cf sm hp neg all (aV all n tm) done ((all.toList.take n).drop k) (bz all tm k) [] with
  | some (ah, os) => CG os (rec f0 fn0 (.ops (true, all) (all.toList.drop n)) K ⟨kD all ah (aS all.size n) n tm, hp, neg⟩ df rd)
  | none => .c9)
 | 0, _ :: _, _, _ => .c9
 | m + 1, p :: ps, done, hp => (match jI P cf sm hp neg all (aV all n tm) (done ++ oQ (p :: ps)) ((all.toList.take n).drop k) (bz all tm k) [] with
  | some (ah, os) => CG os (L6 (((p :: ps).filter fun c => !IE all n (p :: ps) c).map fun c => (match L7 P cf sm hp neg all tm c n ah with
   | some (v, hp', ow) => MA (.bc true) ow (match IG P cf sm hp' neg all tm k n c (ah.set c (.val ⟨.bc true, v⟩)) ((c, ⟨.bc true, v⟩) :: (iW all ah c ++ done)) (og c (p :: ps)) with
    | some ps' => gv P cf sm rec f0 fn0 neg all tm k n df rd K m ps' ((c, ⟨.bc true, v⟩) :: (iW all ah c ++ done)) hp'
    | none => .c9)
   | none => (match ry cf neg all tm c n ah with
    | some (f, fn, code, vs) => rec f0 fn0 (.code code) (.pm f fn tm df rd all k n c (og c (p :: ps)) ah (iW all ah c ++ done) :: K) ⟨iV fn.ntmps vs, hp, neg⟩ [] none
    | none => .c9))))
  | none => .c9)
def vA (P : Program) (cf : a8) (sm : Sm) (rec : Rec) (f0 : FuncId) (fn0 : Func) (all : Bool × Array Oper) (l : List Oper) (K : List Fr) (s : St) (df : List Nat) (rd : Option Nat) : Fm :=
 match all.1 with
 | false => (match L9 P cf sm all.2 l s with | (l, s) => (match zy P s.tm l with
  | some (e, lo, n) => rC (fun g => rec f0 fn0 (.ops all l) K (bf g s) df rd) e lo n
  | none => mI P cf sm rec f0 fn0 all l K s df rd))
 | true => if Region.seqB .any all.2 l.length (all.2.size - l.length) (aS all.2.size (all.2.size - l.length)) then rec f0 fn0 (.ops (false, all.2) l) K s df rd
  else (match BG P cf sm s.hp s.neg all.2 s.tm (all.2.size - l.length) with
   | some (m, q) => CG q.ows (match lE cf all.2 q.ah q.ah 0 (aV all.2 m s.tm) s.hp with
    | (tm, hp) => rec f0 fn0 (.ops all (all.2.toList.drop m)) K ⟨tm, hp, s.neg⟩ df rd)
   | none => if tC all l then mI P cf sm rec f0 fn0 all l K s df rd else (match rv P cf sm s.hp s.neg all.2 s.tm (all.2.size - l.length) with
    | some (c, n, ah, f, fn, code, vs) => rec f0 fn0 (.code code) (.pc f fn s.tm df rd all.2 (all.2.size - l.length) c n ah :: K) ⟨iV fn.ntmps vs, s.hp, s.neg⟩ [] none
    | none => (match rG P cf sm s.hp s.neg all.2 s.tm (all.2.size - l.length) with
    | some (c, n, ah, v, hp', ow) => MA (.bc true) ow (rec f0 fn0 (.ops all (all.2.toList.drop n)) K ⟨kD all.2 (ah.set c (.val ⟨.bc true, v⟩)) (aS all.2.size n) n s.tm, hp', s.neg⟩ df rd)
    | none => (match Mj s.neg all.2 s.tm (all.2.size - l.length) l with
     | some G => .and (.imp G (rec f0 fn0 (.ops all l) K (bf G s) df rd)) (.imp (bp G) (rec f0 fn0 (.ops all l) K (bf (bp G) s) df rd))
     | none => (match zz P cf sm s.hp s.neg all.2 s.tm (all.2.size - l.length) l with
      | some (e, lo, n) => rC (fun g => rec f0 fn0 (.ops all l) K (bf g s) df rd) e lo n
      | none => (match rJ P cf sm s.hp s.neg all.2 s.tm (all.2.size - l.length) with
       | some (n, ah, hp', ows) => CG ows (rec f0 fn0 (.ops all (all.2.toList.drop n)) K ⟨kD all.2 ah (aS all.2.size n) n s.tm, hp', s.neg⟩ df rd)
       | none => (match zA P cf sm s.hp s.neg all.2 s.tm (all.2.size - l.length) with
        | some (n, ps) => gv P cf sm rec f0 fn0 s.neg all.2 s.tm (all.2.size - l.length) n df rd K ps.length ps [] s.hp
        | none => .c9)))))))
def Bz (P : Program) (cf : a8) (sm : Sm) (rec : Rec) (f0 : FuncId) (fn0 : Func) (fn : Func) (tm : aw) (df' : List Nat) (rd' : Option Nat) (all : Array Oper) (k n c : Nat) (ps : List Nat) (ah : List It) (done : List (Nat × Tm)) (K : List Fr) (s : St) (df : List Nat) : Fm :=
 match kC P cf s df fn with
 | some (v, hp) => (match IG P cf sm hp s.neg all tm k n c (ah.set c (.val ⟨.bc true, nz s.neg v⟩)) ((c, ⟨.bc true, nz s.neg v⟩) :: done) ps with
  | some ps' => gv P cf sm rec f0 fn0 s.neg all tm k n df' rd' K ps'.length ps' ((c, ⟨.bc true, nz s.neg v⟩) :: done) hp
  | none => .c9)
 | none => .c9
def BA (P : Program) (cf : a8) (sm : Sm) (rec : Rec) (f0 : FuncId) (fn0 : Func) (fn : Func) (tm : aw) (df' : List Nat) (rd' : Option Nat) (all : Array Oper) (k c n : Nat) (ah : List It) (K : List Fr) (s : St) (df : List Nat) : Fm :=
 match kC P cf s df fn with
 | some (v, hp) => (match ru P cf sm hp s.neg all tm k c n with
  | some its' => if ki ah its' then rec f0 fn0 (.ops (true, all) (all.toList.drop n)) K ⟨kD all (ah.set c (.val ⟨.bc true, nz s.neg v⟩)) (aS all.size n) n tm, hp, s.neg⟩ df' rd' else .c9
  | none => .c9)
 | none => .c9
def Ma : Nat := 1000
def IK (n : Nat) (hp : SH) (df : List Nat) (rd : Option Nat) (K : List Fr) : Bool :=
 Nat.ble n hp.length && (hp.take n).all (HE.av (cB n []) Ma) && df.all (cB n []) && Jy (cB n []) rd && sq n [] Ma K
def Oo (n : Nat) (s : St) (df : List Nat) (rd : Option Nat) (K : List Fr) : Option (St × List Nat) :=
 if IK n s.hp df rd K then some (⟨s.tm.fh (cB n []) Ma, s.hp.take n, s.neg⟩, df) else none
def Oq (n : Nat) (s : St) (df : List Nat) (rd : Option Nat) (K : List Fr) : Option (St × List Nat) := match df with
 | mk :: df' => if Nat.ble (n + df'.length) mk then (match s.hp[mk]? with
  | some ⟨true, ty, .mark⟩ => if IK (n + df'.length) s.hp df' rd K then some (⟨s.tm.fh (cB (n + df'.length) []) Ma, s.hp.take (n + df'.length) ++ [⟨true, ty, .mark⟩], s.neg⟩, (n + df'.length) :: df') else none
  | _ => none) else Oo (n + df'.length + 1) s df rd K
 | [] => Oo n s df rd K
def Md (cf : a8) (f0 : FuncId) (K : List Fr) (s : St) (df : List Nat) (rd : Option Nat) : St × List Nat := match cf.Q9.find? fun x => tN x.1 (rR K :: fo f0 K none) with
 | some (_, n) => (Oq n s df rd K).getD (s, df)
 | none => (s, df)
def cx (P : Program) (cf : a8) (sm : Sm) (rec : Rec) (f0 : FuncId) (fn0 : Func) (K : List Fr) (s : St) (df : List Nat) (rd : Option Nat) : Fm :=
 match K with
  | [] => (match kC P cf s df fn0 with | some (v, hp) => .leaf v hp | none => .c9)
  | .seq c :: K => rec f0 fn0 (.code c) K s df rd
  | .ji _ :: K => rec f0 fn0 .rm K s df rd
  | .xX :: K => rec f0 fn0 .rm K s df rd
  | .lp _ 0 :: _ => .c9
  | .lp c (m + 1) :: K => rec f0 fn0 (.code c) (.lp c m :: K) (Md cf f0 K s df rd).1 (Md cf f0 K s df rd).2 rd
  | .inv L h mv A df0 :: K => if tN df df0 then (match FA L h mv A s with | some F => F | none => .c9) else .c9
  | .act _ fn tm df' rd' all rest dst :: K => (match kC P cf s df fn with
   | some (v, hp) => rec f0 fn0 (.ops all rest) K ⟨bB tm dst ⟨.bc true, nz s.neg v⟩, hp, s.neg⟩ df' rd'
   | none => .c9)
  | .oP _ fn l _ _ _ tm df' rd' :: K => (match kC P cf s df fn with
   | some (_, hp) => (match fm hp l with
    | some (b, ty, st, pd) => if rA st then .c9 else rec f0 fn0 (match pd with | none => .rm | some none => .code .ret | some (some id) => .code (.exit id)) K ⟨tm, hp.set l ⟨b, ty, .dead⟩, s.neg⟩ df' rd'
    | none => .c9)
   | none => .c9)
  | .pc _ fn tm df' rd' all k c n ah :: K => BA P cf sm rec f0 fn0 fn tm df' rd' all k c n ah K s df
  | .pm _ fn tm df' rd' all k n c ps ah done :: K => Bz P cf sm rec f0 fn0 fn tm df' rd' all k n c ps ah done K s df
  | .fE l body :: K => (match fm s.hp l with
   | some (b, ty, st, pd) => if isReady (st, pd) then rec f0 fn0 (.code body) K ⟨s.tm, s.hp.set l ⟨b, ty, .bW .busy none⟩, s.neg⟩ df rd else .c9
   | none => .c9)
  | .sJ l tm df' rd' all rest dst :: K => (match fm s.hp l with
   | some (b, ty, _, _) => rec f0 fn0 (.ops all rest) K ⟨bB tm dst ⟨.bc true, .c (.bool (.bc true))⟩, s.hp.set l ⟨b, ty, .bW .ready none⟩, s.neg⟩ df' rd'
   | none => .c9)
def dX (P : Program) (cf : a8) (rec : Rec) (f0 : FuncId) (fn0 : Func) (id : Nat) (K : List Fr) (s : St) (df : List Nat) (rd : Option Nat) : Fm :=
 match K with
  | .seq _ :: K => rec f0 fn0 (.ex id) K s df rd
  | .ji i :: K => if id = i then rec f0 fn0 .rm K s df rd else rec f0 fn0 (.ex id) K s df rd
  | .lp _ _ :: K => rec f0 fn0 (.ex id) K s df rd
  | .inv .. :: K => rec f0 fn0 (.ex id) K s df rd
  | .xX :: K => rec f0 fn0 (.ex id) K s df rd
  | .sJ l tm df' rd' all rest dst :: K => (match fm s.hp l with
   | some (b, ty, _, _) => rec f0 fn0 (.ops all rest) K ⟨bB tm dst ⟨.bc true, .c (.bool (.bc false))⟩, s.hp.set l ⟨b, ty, .bW .done (some (some id))⟩, s.neg⟩ df' rd'
   | none => .c9)
  | _ => .c9
def cM (P : Program) (cf : a8) (sm : Sm) (rec : Rec) (f0 : FuncId) (fn0 : Func) (K : List Fr) (s : St) (df : List Nat) (rd : Option Nat) : Fm :=
 match K with
  | [] => (match kC P cf s df fn0 with | some (v, hp) => .leaf v hp | none => .c9)
  | .act _ fn tm df' rd' all rest dst :: K => (match kC P cf s df fn with
   | some (v, hp) => rec f0 fn0 (.ops all rest) K ⟨bB tm dst ⟨.bc true, nz s.neg v⟩, hp, s.neg⟩ df' rd'
   | none => .c9)
  | .oP _ fn l _ _ _ tm df' rd' :: K => (match kC P cf s df fn with
   | some (_, hp) => (match fm hp l with
    | some (b, ty, st, pd) => if rA st then .c9 else rec f0 fn0 (match pd with | none => .rm | some none => .code .ret | some (some id) => .code (.exit id)) K ⟨tm, hp.set l ⟨b, ty, .dead⟩, s.neg⟩ df' rd'
    | none => .c9)
   | none => .c9)
  | .sJ l tm df' rd' all rest dst :: K => (match fm s.hp l with
   | some (b, ty, _, _) => rec f0 fn0 (.ops all rest) K ⟨bB tm dst ⟨.bc true, .c (.bool (.bc false))⟩, s.hp.set l ⟨b, ty, .bW .done (some none)⟩, s.neg⟩ df' rd'
   | none => .c9)
  | .pc _ fn tm df' rd' all k c n ah :: K => BA P cf sm rec f0 fn0 fn tm df' rd' all k c n ah K s df
  | .pm _ fn tm df' rd' all k n c ps ah done :: K => Bz P cf sm rec f0 fn0 fn tm df' rd' all k n c ps ah done K s df
  | .fE _ _ :: _ => .c9
  | .seq _ :: K => rec f0 fn0 .ret K s df rd
  | .ji _ :: K => rec f0 fn0 .ret K s df rd
  | .lp _ _ :: K => rec f0 fn0 .ret K s df rd
  | .inv .. :: K => rec f0 fn0 .ret K s df rd
  | .xX :: K => rec f0 fn0 .ret K s df rd
def FO (rec : Rec) : Sm := fun fn c vs => (rec 0 fn (.code c) [] (nJ fn vs) [] none).Mk
def zE (P : Program) (cf : a8) (rec : Rec) : Rec := fun f0 fn0 ctl K s df rd => match ctl with
 | .code c => rD P cf (FO rec) rec f0 fn0 c K s df rd
 | .ops all l => vA P cf (FO rec) rec f0 fn0 all l K s df rd
 | .rm => cx P cf (FO rec) rec f0 fn0 K s df rd
 | .ex id => dX P cf rec f0 fn0 id K s df rd
 | .ret => cM P cf (FO rec) rec f0 fn0 K s df rd
def goN (P : Program) (cf : a8) : Nat → Rec
 | 0 => fun _ _ _ _ _ _ _ => .c9
 | n + 1 => zE P cf (goN P cf n)
theorem FP (P : Program) (cf : a8) : goN P cf 0 = fun _ _ _ _ _ _ _ => .c9 := rfl
theorem FQ (P : Program) (cf : a8) (n : Nat) : goN P cf (n + 1) = zE P cf (goN P cf n) := rfl
attribute [irreducible] goN
def go (P : Program) (cf : a8) (f0 : FuncId) (fn0 : Func) (n : Nat) (ctl : On) (K : List Fr) (s : St) (df : List Nat) (rd : Option Nat) : Fm := goN P cf n f0 fn0 ctl K s df rd
end Vc
end Go.Proofs.YtpmfkelglmgddaaGreatDoor
