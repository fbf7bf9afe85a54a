/- Reading and writing symbolic memory. -/
import Derived.Test.YtpmfkelglmgddaaGreatDoorVdC
import Derived.Deep.Quiet
import Derived.ChangeKeysEq
namespace Go.Proofs.YtpmfkelglmgddaaGreatDoor
namespace Vc
open Go Go.RowKit
set_option linter.unusedVariables false
def cj (P : Program) (t : TypeId) : Option Bool :=
 match P.underlying t with
 | some (.struct _) | some (.array _ _) => some true
 | some _ => some false
 | none => none
def dp (P : Program) (t : TypeId) : Option Nat := (P.info? t).map (·.size)
theorem fH {P : Program} {t : TypeId} {b : Bool} (h : cj P t = some b) (w : World) : (isAgg t).run P w = .ok b w := by
 unfold cj at h
 split at h
 ·rename_i d hd; cases h; simp [isAgg, run_underlying hd]
 ·rename_i d hd; cases h; simp [isAgg, run_underlying hd]
 ·rename_i d _ hd; cases h
  simp only [isAgg, Sem.run_bind, run_underlying hd, Result.andThen_ok]
  rfl
 ·cases h
theorem run_sizeOf {P : Program} {t : TypeId} {n : Nat} (h : dp P t = some n) (w : World) : (sizeOf t).run P w = .ok n w := by
 unfold dp at h
 cases hi : P.info? t with
 | none => rw [hi] at h; cases h
 | some i => rw [hi] at h; cases h; simp [sizeOf, typeInfo, hi]
def tl (P : Program) (t : TypeId) (cs : List SC) (off : Nat) : Option SV :=
 match cj P t with
 | some true => (match dp P t with | some n => some (.agg ((cs.drop off).take n)) | none => none)
 | some false => (match cs[off]? with | some s => some (.c s) | none => none)
 | none => none
theorem mg {P : Program} {ρ : Env} {ls : Ls} {t : TypeId} {cs : List SC} {vs : List Value} {off : Nat} {s : SV} (h : tl P t cs off = some s) (hr : ai (RS ρ ls) cs vs) (w : World) :
 ∃ u, (part t vs.toArray off).run P w = .ok u w ∧ RV ρ ls s u := by
 unfold tl at h
 split at h
 ·rename_i ha
  split at h
  ·rename_i n hn
   cases h
   refine ⟨.agg ((vs.drop off).take n).toArray, ?_, _, rfl, (hr.drop off).take n⟩
   simp [part, fH ha, run_sizeOf hn]
  ·cases h
 ·rename_i ha
  split at h
  ·rename_i s' hs
   cases h
   obtain ⟨u, hu, hru⟩ := hr.get hs
   exact ⟨u, by simp [part, fH ha, hu], hru⟩
  ·cases h
 ·cases h
def eN : SV → Option (List SC)
 | .c s => if s.one then some [s] else none
 | .agg l => if l.all SC.one then some l else none
 | _ => none
theorem cW {ρ : Env} {ls : Ls} {s : SV} {v : Value} {l : List SC} (h : eN s = some l) (hr : RV ρ ls s v) :
 ∃ vs, v.cells = List.toArray vs ∧ ai (RS ρ ls) l vs ∧ ∀ u ∈ vs, u.oneCell' = true := by
 cases s with
 | c s =>
  simp only [eN] at h
  split at h
  ·rename_i h1
   cases h
   have h2 := RS.uJ hr h1
   exact ⟨[v], by rw [uK h2], ⟨hr, trivial⟩, by simpa using h2⟩
  ·cases h
 | agg l' =>
  simp only [eN] at h
  split at h
  ·rename_i h1
   cases h
   obtain ⟨vs, rfl, ha⟩ := hr
   refine ⟨vs, rfl, ha, ?_⟩
   induction l generalizing vs with
   | nil => cases vs with
    | nil => simp
    | cons _ _ => exact ha.elim
   | cons x xs ih => cases vs with
    | nil => exact ha.elim
    | cons u us =>
     simp only [List.all_cons, Bool.and_eq_true] at h1
     intro z hz
     rcases List.mem_cons.1 hz with rfl | hz
     ·exact RS.uJ ha.1 h1.1
     ·exact ih h1.2 us ha.2 z hz
  ·cases h
 | eJ l' => cases h
def setMany {α : Type} : List α → Nat → List α → List α
 | cs, _, [] => cs
 | cs, o, x :: xs => setMany (cs.set o x) (o + 1) xs
theorem ai.setMany {α β : Type} {R : α → β → Prop} : ∀ {xs : List α} {ys : List β}, ai R xs ys → ∀ {cs : List α} {ds : List β} (o : Nat), ai R cs ds → ai R (Vc.setMany cs o xs) (Vc.setMany ds o ys)
 | [], [], _, _, _, _, h => h
 | _ :: _, _ :: _, h, _, _, o, h' => ai.setMany h.2 (o + 1) (h'.set o h.1)
def LD (k : IntKind) (e : E) (lo hi : Int) : SC := match e with | .ic n => .int k (.ic n) n n | e => .int k e lo hi
theorem H2 {ρ : Env} {ls : Ls} {k : IntKind} {e : E} {lo hi : Int} {v : Value} (h : RS ρ ls (.int k e lo hi) v) : RS ρ ls (LD k e lo hi) v := by
 unfold LD
 split
 ·exact ⟨h.1, Int.le_refl _, Int.le_refl _⟩
 ·exact h
def QE (s : Sk) (R i : E) (o : Nat) : SC :=
 match s with
 | .int k lo hi => LD k (if lo = hi then .ic lo else kT R i (.ic o)) lo hi
 | .bool => .bool (kT R i (.ic o))
 | .p8 => .Gu (kT R i (.ic o))
 | .str hi => .str (kT R i (.ic o)) hi
def AR : List (Nat × List Value) → Nat → Option (List Value)
 | [], _ => none
 | (g, vs) :: r, k => if g == k then some vs else AR r k
theorem qx : ∀ {gs : List (Nat × List Value)} {k : Nat} {vs : List Value}, AR gs k = some vs → (k, vs) ∈ gs
 | [], _, _, h => by cases h
 | (g, us) :: r, k, vs, h => by
  simp only [AR] at h
  split at h
  ·rename_i he; cases h; simp at he; subst he; simp
  ·exact List.mem_cons_of_mem _ (qx h)
def uL (sh : List Sk) (R i : E) : Nat → Nat → Option (List SC)
 | _, 0 => some []
 | off, n + 1 => match sh[off]?, uL sh R i (off + 1) n with | some s, some r => some (QE s R i off :: r) | _, _ => none
def eO : E → Option Int
 | .ic n => some n
 | _ => none
theorem fP {e : E} {n : Int} (h : eO e = some n) : e = .ic n := by cases e <;> simp_all [eO]
def AS (P : Program) (gs : List (Nat × List Value)) (hp : SH) (t : TypeId) (x : SC) : Option SV :=
 match x with
 | .ptr l off => (match cj P t, hp[l]? with
  | some false, some ⟨_, _, .cells cs⟩ => (match cs[off]? with | some s => some (.c s) | none => none)
  | some true, some ⟨_, _, .cells cs⟩ => (match dp P t with | some n => if off + n ≤ cs.length then some (.agg ((cs.drop off).take n)) else none | none => none)
  | _, _ => none)
 | .gl g off => (match cj P t, AR gs g with
  | some false, some vs => (match vs[off]? with | some v => some (.c (oM v)) | none => none)
  | some true, some vs => (match dp P t with | some n => if off + n ≤ vs.length then some (.agg (((vs.drop off).take n).map oM)) else none | none => none)
  | _, _ => none)
 | .pe l sz i off => (match cj P t, hp[l]? with
  | some false, some ⟨_, _, .row sh R _ _⟩ => if sz = sh.length then (match sh[off]? with | some s => some (.c (QE s R i off)) | none => none) else none
  | some true, some ⟨_, _, .row sh R _ _⟩ => if sz = sh.length then (match dp P t with | some n => (match uL sh R i off n with | some l => some (.agg l) | none => none) | none => none) else none
  | some false, some ⟨_, _, .grow sz' cs⟩ => if sz = sz' then (match eO i with | some k => (match cs[k.toNat * sz + off]? with | some s => some (.c s) | none => none) | none => none) else none
  | some true, some ⟨_, _, .grow sz' cs⟩ => if sz = sz' then (match eO i, dp P t with | some k, some n => if k.toNat * sz + off + n ≤ cs.length then some (.agg ((cs.drop (k.toNat * sz + off)).take n)) else none | _, _ => none) else none
  | _, _ => none)
 | _ => none
section
variable {P : Program} {ρ : Env} {B : Nat} {w0 w : World} {ls : Ls} {hp : SH}
theorem EM {s : Sk} {R i : E} {o : Nat} (h : dM s (aU ρ R (aa ρ i) o)) : RS ρ ls (QE s R i o) (iR s (aU ρ R (aa ρ i) o)) := by
 have e := Af ρ R i (.ic o)
 have e' : (ev ρ (kT R i (.ic o))).x.y = aU ρ R (aa ρ i) o := e
 have e1 : aa ρ (kT R i (.ic o)) = (aU ρ R (aa ρ i) o).i := by rw [← e']; rfl
 have e2 : al ρ (kT R i (.ic o)) = (aU ρ R (aa ρ i) o).b := by rw [← e']; rfl
 have e3 : (ev ρ (kT R i (.ic o))).x.v = (aU ρ R (aa ρ i) o).v := by rw [← e']; rfl
 cases s with
 | int k lo hi =>
  have h1 := h.1
  have h2 := h.2
  have e4 : aa ρ (if lo = hi then .ic lo else kT R i (.ic o)) = (aU ρ R (aa ρ i) o).i := by
   split
   ·show lo = _; omega
   ·exact e1
  exact H2 ⟨by rw [e4]; rfl, by rw [e4]; exact h1, by rw [e4]; exact h2⟩
 | bool => show _ = Value.bool _; rw [e2]; rfl
 | p8 => exact ⟨by rw [e3]; rfl, h⟩
 | str hi => obtain ⟨s, h1, h2, h3⟩ := h; exact ⟨s, h1, by rw [e3]; exact h1, by rw [e1]; exact h2, h3⟩
theorem wQ {l : Nat} {b : Bool} {ty : TypeId} {sh : List Sk} {R n : E} {hi : Int} (h : aT ρ B w ls l ⟨b, ty, .row sh R n hi⟩) {i o : Nat} {s : Sk} (hi' : i < (aa ρ n).toNat) (ho : sh[o]? = some s) :
 ∃ a c, ls[l]? = some (.slice (some a) (aa ρ n).toNat c) ∧ w.cell? (a.add (i * sh.length + o)) = some (iR s (aU ρ R i o)) ∧ dM s (aU ρ R i o) := by
 obtain ⟨A, c, h1, h2, h3, h4, h5, h6, h7, h8⟩ := h
 have hg := cT (R := aU ρ R) hi' ho
 have hk : dM s (aU ρ R i o) := by
  have := gK (h6 i hi') ho
  simpa using this
 cases b
 ·obtain ⟨a, rfl, e3⟩ := h8 rfl (by omega)
  exact ⟨a, c, h1, e3 _ _ hg, hk⟩
 ·have hown := h7 rfl
  cases hA : A with
  | none =>
   subst hA
   rcases hown.2 with ⟨e, e'⟩ | ⟨g, cap, cur, e, _⟩
   ·omega
   ·cases e
  | some a =>
   subst hA
   refine ⟨a, c, h1, ?_, hk⟩
   have hb : ∃ g, a = ⟨g, 0, none⟩ := by
    rcases hown.2 with ⟨e, _⟩ | ⟨g, cap, cur, e, _⟩
    ·cases e
    ·injection e with e1; injection e1 with e2; exact ⟨g, e2⟩
   obtain ⟨g, rfl⟩ := hb
   exact hown.cells (g := g) rfl _ _ hg
theorem eP {t : TypeId} {a : Addr} {vs : List Value} (ha : cj P t = some true) (hn : dp P t = some vs.length) (h : ∀ j v, vs[j]? = some v → w.cell? (a.add j) = some v) :
 (loadVar t a).run P w = .ok (.agg vs.toArray) w := by
 have hl := run_loadCells_list (P := P) w a vs h
 simp [loadVar, fH ha, run_sizeOf hn, hl]
theorem cr {t : TypeId} {a : Addr} {v : Value} (ha : cj P t = some false) (h : w.cell? a = some v) : (loadVar t a).run P w = .ok v w := by
 simp [loadVar, fH ha, h]
theorem tn {sh : List Sk} {R i : E} {a : Addr} (hc : ∀ (o : Nat) (s : Sk), sh[o]? = some s → w.cell? (a.add ((aa ρ i).toNat * sh.length + o)) = some (iR s (aU ρ R (aa ρ i) o)) ∧ dM s (aU ρ R (aa ρ i) o)) :
 ∀ {n off : Nat} {l : List SC}, uL sh R i off n = some l → ∃ vs, vs.length = n ∧ ai (RS ρ ls) l vs ∧ ∀ j v, vs[j]? = some v → w.cell? ((a.add ((aa ρ i).toNat * sh.length + off)).add j) = some v
 | 0, off, l, h => by cases h; exact ⟨[], rfl, trivial, fun j v hv => by simp at hv⟩
 | n + 1, off, l, h => by
  simp only [uL] at h
  split at h
  ·rename_i s r hs hr
   cases h
   obtain ⟨vs, h1, h2, h3⟩ := tn hc hr
   obtain ⟨c1, c2⟩ := hc off s hs
   refine ⟨iR s (aU ρ R (aa ρ i) off) :: vs, by simp [h1], ⟨EM c2, h2⟩, fun j v hv => ?_⟩
   cases j with
   | zero => simp at hv; subst hv; rw [add_add]; exact c1
   | succ j =>
    simp at hv
    have := h3 j v hv
    rw [add_add] at this ⊢
    rw [show (aa ρ i).toNat * sh.length + off + (j + 1) = (aa ρ i).toNat * sh.length + (off + 1) + j by omega]
    exact this
  ·cases h
theorem nt {e : TypeId} {sz : Nat} {a : Addr} {n c : Nat} {vs : List Value} (hown : w.ownsRow B e sz (.slice (some a) n c) n vs) {j : Nat} {u : Value} (hu : vs[j]? = some u) : w.cell? (a.add j) = some u := by
 have hb : ∃ g, a = ⟨g, 0, none⟩ := by
  rcases hown.2 with ⟨e, _⟩ | ⟨g, cap, cur, e, _⟩
  ·cases e
  ·injection e with e1; injection e1 with e2; exact ⟨g, e2⟩
 obtain ⟨g, rfl⟩ := hb
 exact hown.cells (g := g) rfl _ _ hu
theorem wR {t : TypeId} {x : SC} {s : SV} {v : Value} (h : AS P ρ.g hp t x = some s) (hh : aB ρ B w0 ls hp w) (hv : RS ρ ls x v) :
 ∃ a u, v = .pointer (some a) ∧ (loadVar t a).run P w = .ok u w ∧ RV ρ ls s u := by
 unfold AS at h
 split at h
 ·rename_i l off
  obtain ⟨a, ha, rfl⟩ := hv
  split at h
  ·rename_i b ty cs hag hx
   split at h
   ·rename_i s' hs
    cases h
    obtain ⟨a', vs, e1, e2, e3, _⟩ := hh.bA l _ hx
    rw [ha] at e1; cases e1
    obtain ⟨u, hu, hr⟩ := e2.get hs
    exact ⟨_, u, rfl, cr hag (e3 _ _ hu), hr⟩
   ·cases h
  ·rename_i b ty cs hag hx
   split at h
   ·rename_i n hn
    split at h
    ·rename_i hle
     cases h
     obtain ⟨a', vs, e1, e2, e3, _⟩ := hh.bA l _ hx
     rw [ha] at e1; cases e1
     have hlen := e2.len
     have hlen' : ((vs.drop off).take n).length = n := by simp; omega
     refine ⟨_, _, rfl, eP (vs := (vs.drop off).take n) hag (by rw [hlen']; exact hn) (fun j v hj => ?_), _, rfl, (e2.drop off).take n⟩
     rw [add_add]
     rw [List.getElem?_take] at hj
     split at hj
     ·rw [List.getElem?_drop] at hj; exact e3 _ _ hj
     ·cases hj
    ·cases h
   ·cases h
  ·cases h
 ·rename_i g off
  have hv' : v = .pointer (some ⟨g, off, none⟩) := hv
  subst hv'
  split at h
  ·rename_i vs hag hg
   split at h
   ·rename_i u hu
    cases h
    have := (hh.cS _ (qx hg)).2 _ _ hu
    exact ⟨_, u, rfl, cr hag this, ix ρ ls u⟩
   ·cases h
  ·rename_i vs hag hg
   split at h
   ·rename_i n hn
    split at h
    ·rename_i hle
     cases h
     have hlen' : ((vs.drop off).take n).length = n := by simp; omega
     refine ⟨_, _, rfl, eP (vs := (vs.drop off).take n) hag (by rw [hlen']; exact hn) (fun j v hj => ?_), _, rfl, ai.qq oM _ fun b _ => ix ρ ls b⟩
     rw [Addr.add_lit]
     rw [List.getElem?_take] at hj
     split at hj
     ·rw [List.getElem?_drop] at hj; exact (hh.cS _ (qx hg)).2 _ _ hj
     ·cases hj
    ·cases h
   ·cases h
  ·cases h
 ·rename_i l sz i off
  obtain ⟨a, N, C, ha, rfl, hi0, hiN⟩ := hv
  split at h
  ·rename_i b ty sh R n hi hag hx
   split at h
   ·rename_i hsz
    split at h
    ·rename_i s' hs
     cases h
     subst hsz
     have hent := hh.bA l _ hx
     have hN : N = (aa ρ n).toNat := by
      obtain ⟨A, c, h1, _⟩ := hent
      rw [ha] at h1; injection h1 with h1; injection h1
     obtain ⟨a', c, e1, e2, e3⟩ := wQ hent (i := (aa ρ i).toNat) (by omega) hs
     rw [ha] at e1; cases e1
     rw [show (((aa ρ i).toNat : Nat) : Int) = aa ρ i by omega] at e2 e3
     exact ⟨_, _, rfl, cr hag e2, EM e3⟩
    ·cases h
   ·cases h
  ·rename_i b ty sh R n hi hag hx
   split at h
   ·rename_i hsz
    split at h
    ·rename_i m hm
     split at h
     ·rename_i l' hl'
      cases h
      subst hsz
      have hent := hh.bA l _ hx
      have hN : N = (aa ρ n).toNat := by
       obtain ⟨A, c, h1, _⟩ := hent
       rw [ha] at h1; injection h1 with h1; injection h1
      have hc : ∀ (o : Nat) (s : Sk), sh[o]? = some s → w.cell? (a.add ((aa ρ i).toNat * sh.length + o)) = some (iR s (aU ρ R (aa ρ i) o)) ∧ dM s (aU ρ R (aa ρ i) o) := fun o s hs => by
       obtain ⟨a', c, e1, e2, e3⟩ := wQ hent (i := (aa ρ i).toNat) (by omega) hs
       rw [ha] at e1; cases e1
       rw [show (((aa ρ i).toNat : Nat) : Int) = aa ρ i by omega] at e2 e3
       exact ⟨e2, e3⟩
      obtain ⟨vs, v1, v2, v3⟩ := tn (ls := ls) hc hl'
      exact ⟨_, _, rfl, eP hag (by rw [v1]; exact hm) v3, vs, rfl, v2⟩
     ·cases h
    ·cases h
   ·cases h
  ·rename_i b ty sz' cs hag hx
   split at h
   ·rename_i hsz
    subst hsz
    split at h
    ·rename_i k hk
     have he := fP hk
     subst he
     split at h
     ·rename_i s' hs
      cases h
      obtain ⟨_, _, A, n, c, vs, h1, h2, h3, h4⟩ := hh.bA l _ hx
      obtain ⟨u, hu, hr⟩ := h3.get hs
      have h1' := ha
      rw [h1] at ha; injection ha with ha; injection ha with ha1 ha2 ha3
      subst ha1
      exact ⟨_, u, rfl, cr hag (nt h4 hu), hr⟩
     ·cases h
    ·cases h
   ·cases h
  ·rename_i b ty sz' cs hag hx
   split at h
   ·rename_i hsz
    subst hsz
    split at h
    ·rename_i k m hk hm
     have he := fP hk
     subst he
     split at h
     ·rename_i hle
      cases h
      obtain ⟨_, _, A, n, c, vs, h1, h2, h3, h4⟩ := hh.bA l _ hx
      rw [h1] at ha; injection ha with ha; injection ha with ha1 ha2 ha3
      subst ha1
      have hlen := h3.len
      have hlen' : ((vs.drop (k.toNat * sz + off)).take m).length = m := by simp; omega
      refine ⟨_, _, rfl, eP (vs := (vs.drop (k.toNat * sz + off)).take m) hag (by rw [hlen']; exact hm) (fun j v hj => ?_), _, rfl, (h3.drop _).take m⟩
      rw [add_add]
      rw [List.getElem?_take] at hj
      split at hj
      ·rw [List.getElem?_drop] at hj; exact nt h4 hj
      ·cases hj
     ·cases h
    ·cases h
   ·cases h
  ·cases h
 ·cases h
def j5 : Sk → SC → Option (Sk × E)
 | .int k lo hi, .int k' e l h => if k = k' then some (.int k (min lo l) (max hi h), e) else none
 | .bool, .bool e => some (.bool, e)
 | .p8, .Gu e => some (.p8, e)
 | .p8, .di v => if v.oneCell' then some (.p8, .cv v) else none
 | .str hi, .str e h => some (.str (max hi h), e)
 | .str hi, .di (.string s) => some (.str (max hi s.size), .cs s)
 | _, _ => none
def uM (i : E) : List Sk → E → Nat → List SC → Option (List Sk × E)
 | sh, R, _, [] => some (sh, R)
 | sh, R, o, c :: cs => match sh[o]? with
  | some s => (match j5 s c with
   | some (s', e) => uM i (sh.set o s') (.dL R i (.ic o) e) (o + 1) cs
   | none => none)
  | none => none
def yR (P : Program) (hp : SH) (t : TypeId) (x : SC) (v : SV) : Option SH :=
 match x with
 | .ptr l off => (match eN v, dp P t, hp[l]? with
  | some cs, some n, some ⟨true, ty, .cells cs'⟩ => if (n == cs.length) && decide (off + n ≤ cs'.length) then some (hp.set l ⟨true, ty, .cells (setMany cs' off cs)⟩) else none
  | _, _, _ => none)
 | .pe l sz i off => (match eN v, dp P t, hp[l]? with
  | some cs, some n, some ⟨true, ty, .row sh R m hi⟩ => if (n == cs.length) && (sz == sh.length) then (match uM i sh R off cs with
   | some (sh', R') => some (hp.set l ⟨true, ty, .row sh' R' m hi⟩)
   | none => none) else none
  | _, _, _ => none)
 | _ => none
theorem mh {α : Type} {l : List α} {i : Nat} {x : α} (h : l[i]? = some x) : l.set i x = l := by
 apply List.ext_getElem?
 intro j
 by_cases hj : j = i
 ·subst hj
  have hlt : j < l.length := (List.getElem?_eq_some_iff.1 h).1
  rw [List.getElem?_set_self hlt, h]
 ·rw [List.getElem?_set_ne (Ne.symm hj)]
theorem kI : ∀ (cs : List SC) (vs : List Value) (w : World) (hp : SH) (l off i : Nat) (a : Addr) (ty : TypeId) (cs' : List SC), aB ρ B w0 ls hp w → hp[l]? = some ⟨true, ty, .cells cs'⟩ → ls[l]? = some (.pointer (some a)) →
 off + i + cs.length ≤ cs'.length → ai (RS ρ ls) cs vs → (∀ u ∈ vs, u.oneCell' = true) →
 ∃ w', (storeCells (a.add off) vs i).run P w = .ok () w' ∧ aB ρ B w0 ls (hp.set l ⟨true, ty, .cells (setMany cs' (off + i) cs)⟩) w'
 | [], [], w, hp, l, off, i, a, ty, cs', hh, hl, _, _, _, _ => ⟨w, rfl, by rw [show setMany cs' (off + i) [] = cs' from rfl, mh hl]; exact hh⟩
 | c :: cs, v :: vs, w, hp, l, off, i, a, ty, cs', hh, hl, ha, hle, hr, h1 => by
  simp only [List.length_cons] at hle
  have hst := hh.set (o := off + i) hl (by omega) hr.1 (h1 v (by simp)) ha P
  have hll : l < hp.length := (List.getElem?_eq_some_iff.1 hl).1
  obtain ⟨w', hrun, dZ⟩ := kI cs vs _ _ l off (i + 1) a ty (cs'.set (off + i) c) hst.2 (List.getElem?_set_self hll) ha (by simp; omega) hr.2 (fun u hu => h1 u (by simp [hu]))
  refine ⟨w', ?_, ?_⟩
  ·simp only [storeCells, Sem.run_bind]
   rw [add_add, hst.1]
   exact hrun
  ·rw [List.set_set] at dZ
   exact dZ
theorem nu {s s' : Sk} {c : SC} {e : E} {v : Value} (h : j5 s c = some (s', e)) (hr : RS ρ ls c v) : iR s' (ev ρ e).x.y = v ∧ dM s' (ev ρ e).x.y ∧ (∀ y, iR s' y = iR s y) ∧ (∀ y, dM s y → dM s' y) := by
 unfold j5 at h
 split at h
 ·split at h
  ·rename_i hk
   subst hk
   cases h
   obtain ⟨rfl, h2, h3⟩ := hr
   refine ⟨rfl, ⟨?_, ?_⟩, fun y => rfl, fun y hy => ⟨?_, ?_⟩⟩
   ·show _ ≤ aa ρ _; omega
   ·show aa ρ _ ≤ _; omega
   ·have := hy.1; omega
   ·have := hy.2; omega
  ·cases h
 ·cases h
  have hr' : v = .bool _ := hr
  subst hr'
  exact ⟨rfl, trivial, fun y => rfl, fun y hy => hy⟩
 ·cases h
  obtain ⟨rfl, h2⟩ := hr
  exact ⟨rfl, h2, fun y => rfl, fun y hy => hy⟩
 ·split at h
  ·rename_i h1
   cases h
   have hr' : v = _ := hr
   subst hr'
   exact ⟨rfl, h1, fun y => rfl, fun y hy => hy⟩
  ·cases h
 ·cases h
  obtain ⟨s, rfl, h2, h3, h4⟩ := hr
  exact ⟨h2, ⟨s, h2, h3, by omega⟩, fun y => rfl, fun y hy => by obtain ⟨s', g1, g2, g3⟩ := hy; exact ⟨s', g1, g2, by omega⟩⟩
 ·cases h
  have hr' : v = _ := hr
  subst hr'
  exact ⟨rfl, ⟨_, rfl, rfl, by omega⟩, fun y => rfl, fun y hy => by obtain ⟨s', g1, g2, g3⟩ := hy; exact ⟨s', g1, g2, by omega⟩⟩
 ·cases h
theorem aB.H3 (hh : aB ρ B w0 ls hp w) {l o : Nat} {ty : TypeId} {sh : List Sk} {R n i : E} {hi : Int} {s s' : Sk} {c : SC} {e : E} {v : Value} (hl : hp[l]? = some ⟨true, ty, .row sh R n hi⟩) (ho : sh[o]? = some s) (hm : j5 s c = some (s', e))
 (hr : RS ρ ls c v) (h1 : v.oneCell' = true) {a : Addr} {N C : Nat} (ha : ls[l]? = some (.slice (some a) N C)) (hi0 : 0 ≤ aa ρ i) (hiN : (aa ρ i).toNat < N) (P : Program) :
 (store (a.add ((aa ρ i).toNat * sh.length + o)) v).run P w = .ok () (w.setCell (a.add ((aa ρ i).toNat * sh.length + o)) v) ∧
 aB ρ B w0 ls (hp.set l ⟨true, ty, .row (sh.set o s') (.dL R i (.ic o) e) n hi⟩) (w.setCell (a.add ((aa ρ i).toNat * sh.length + o)) v) := by
 have hent := hh.bA l _ hl
 obtain ⟨A, c', g1, g2, g3, g4, g5, g6, g7, _⟩ := hent
 rw [ha] at g1
 injection g1 with g1
 injection g1 with g1 gN gC
 subst g1 gN gC
 have hown := g7 rfl
 obtain ⟨g, rfl⟩ : ∃ g, a = ⟨g, 0, none⟩ := by
  rcases hown.2 with ⟨e, _⟩ | ⟨g, cap, cur, e, _⟩
  ·cases e
  ·injection e with e1; injection e1 with e2; exact ⟨g, e2⟩
 have hol : o < sh.length := (List.getElem?_eq_some_iff.1 ho).1
 rw [Addr.add_lit]
 simp only [Nat.zero_add]
 have hget := cT (R := aU ρ R) hiN ho
 have hcell : w.cell? ⟨g, (aa ρ i).toNat * sh.length + o, none⟩ = some (iR s (aU ρ R (aa ρ i).toNat o)) := by
  have := hown.cells (g := g) rfl _ _ hget
  rwa [Addr.add_lit, Nat.zero_add] at this
 obtain ⟨m1, m2, m3, m4⟩ := nu hm hr
 refine ⟨?_, ?_⟩
 ·rw [run_store P w _ v .plain h1, hcell, hown.frozenAt]
  rfl
 ·obtain ⟨st1, st2⟩ := hown.stored ((aa ρ i).toNat * sh.length + o) v
  refine hh.lY hl rfl st2 (.inr ⟨_, rfl, .inl (by rw [ha]; rfl)⟩) ?_
  have hset : ∀ (j p : Nat), aU ρ (.dL R i (.ic o) e) j p = if j = (aa ρ i).toNat ∧ p = o then (ev ρ e).x.y else aU ρ R j p := fun j p => by
   show (if (j : Int) = aa ρ i ∧ (p : Int) = (o : Int) then _ else _) = _
   by_cases hc : j = (aa ρ i).toNat ∧ p = o
   ·rw [if_pos hc, if_pos ⟨by omega, by omega⟩]
   ·rw [if_neg hc, if_neg (fun hh => hc ⟨by omega, by omega⟩)]
  have hshset : ∀ p : Nat, (sh.set o s')[p]? = if p = o then some s' else sh[p]? := fun p => by
   by_cases hp' : p = o
   ·subst hp'; rw [if_pos rfl, List.getElem?_set_self hol]
   ·rw [if_neg hp', List.getElem?_set_ne (Ne.symm hp')]
  have hrow : (aO sh (aU ρ R) (aa ρ n).toNat).set ((aa ρ i).toNat * sh.length + o) v = aO (sh.set o s') (aU ρ (.dL R i (.ic o) e)) (aa ρ n).toNat := by
   refine ma (by rw [List.length_set, a7, List.length_set]) (fun j p s2 hj hp2 => ?_)
   rw [List.length_set]
   rw [hshset] at hp2
   have hpl : p < sh.length := by
    by_cases hp' : p = o
    ·omega
    ·rw [if_neg hp'] at hp2; exact (List.getElem?_eq_some_iff.1 hp2).1
   by_cases hc : j = (aa ρ i).toNat ∧ p = o
   ·obtain ⟨rfl, rfl⟩ := hc
    rw [if_pos rfl] at hp2
    cases hp2
    rw [List.getElem?_set_self (by rw [a7]; have := Nat.mul_le_mul_right sh.length (show (aa ρ i).toNat + 1 ≤ (aa ρ n).toNat from hiN); rw [Nat.add_mul] at this; omega)]
    rw [hset, if_pos ⟨rfl, rfl⟩, m1]
   ·have hne : (aa ρ i).toNat * sh.length + o ≠ j * sh.length + p := fun e => hc (by
     have e1 : ((aa ρ i).toNat * sh.length + o) / sh.length = (j * sh.length + p) / sh.length := by rw [e]
     rw [Nat.mul_comm _ sh.length, Nat.mul_comm j, Nat.mul_add_div (by omega), Nat.mul_add_div (by omega), Nat.div_eq_of_lt hol, Nat.div_eq_of_lt hpl] at e1
     have e2 : j = (aa ρ i).toNat := by omega
     subst e2
     exact ⟨rfl, by omega⟩)
    rw [List.getElem?_set_ne hne, hset, if_neg hc]
    by_cases hp' : p = o
    ·subst hp'
     rw [if_pos rfl] at hp2
     cases hp2
     rw [m3]; exact cT hj ho
    ·rw [if_neg hp'] at hp2
     exact cT hj hp2
  refine ⟨_, C, ha, g2, g3, g4, by rw [List.length_set]; exact g5, fun j hj => ?_, fun _ => ?_, fun e => by cases e⟩
  ·refine iy fun p s2 hp2 => ?_
   rw [Int.zero_add, hset]
   rw [hshset] at hp2
   by_cases hc : j = (aa ρ i).toNat ∧ p = o
   ·obtain ⟨rfl, rfl⟩ := hc
    rw [if_pos rfl] at hp2
    cases hp2
    rw [if_pos ⟨rfl, rfl⟩]; exact m2
   ·rw [if_neg hc]
    by_cases hp' : p = o
    ·subst hp'
     rw [if_pos rfl] at hp2
     cases hp2
     have := gK (g6 j hj) ho
     rw [Int.zero_add] at this
     exact m4 _ this
    ·rw [if_neg hp'] at hp2
     have := gK (g6 j hj) hp2
     rwa [Int.zero_add] at this
  ·show (w.setCell _ v).ownsRow B ty (sh.set o s').length _ _ _
   rw [← hrow, List.length_set]
   exact st1
theorem nU : ∀ (cs : List SC) (vs : List Value) (w : World) (hp : SH) (l off k : Nat) (a : Addr) (N C : Nat) (ty : TypeId) (sh sh' : List Sk) (R R' n i : E) (hi : Int), aB ρ B w0 ls hp w → hp[l]? = some ⟨true, ty, .row sh R n hi⟩ → ls[l]? = some (.slice (some a) N C) →
 0 ≤ aa ρ i → (aa ρ i).toNat < N → uM i sh R (off + k) cs = some (sh', R') → ai (RS ρ ls) cs vs → (∀ u ∈ vs, u.oneCell' = true) →
 ∃ w', (storeCells (a.add ((aa ρ i).toNat * sh.length + off)) vs k).run P w = .ok () w' ∧ aB ρ B w0 ls (hp.set l ⟨true, ty, .row sh' R' n hi⟩) w'
 | [], [], w, hp, l, off, k, a, N, C, ty, sh, sh', R, R', n, i, hi, hh, hl, _, _, _, h, _, _ => by
  cases h
  exact ⟨w, rfl, by rw [mh hl]; exact hh⟩
 | c :: cs, v :: vs, w, hp, l, off, k, a, N, C, ty, sh, sh', R, R', n, i, hi, hh, hl, ha, h0, hN, h, hr, h1 => by
  simp only [uM] at h
  split at h
  ·rename_i s hs
   split at h
   ·rename_i s' e hm
    have hst := hh.H3 hl hs hm hr.1 (h1 v (by simp)) ha h0 hN P
    have hll : l < hp.length := (List.getElem?_eq_some_iff.1 hl).1
    obtain ⟨w', hrun, dZ⟩ := nU cs vs _ _ l off (k + 1) a N C ty (sh.set (off + k) s') sh' (.dL R i (.ic (off + k : Nat)) e) R' n i hi hst.2 (List.getElem?_set_self hll) ha h0 hN h hr.2 (fun u hu => h1 u (by simp [hu]))
    refine ⟨w', ?_, by rw [List.set_set] at dZ; exact dZ⟩
    simp only [storeCells, Sem.run_bind]
    rw [add_add, show (aa ρ i).toNat * sh.length + off + k = (aa ρ i).toNat * sh.length + (off + k) by omega, hst.1]
    simp only [List.length_set] at hrun
    exact hrun
   ·cases h
  ·cases h
theorem Ce {hp' : SH} {t : TypeId} {x : SC} {s : SV} {u v : Value} (h : yR P hp t x s = some hp') (hh : aB ρ B w0 ls hp w) (ha : RS ρ ls x u) (hv : RV ρ ls s v) :
 ∃ a w', u = .pointer (some a) ∧ (storeVar t a v).run P w = .ok () w' ∧ aB ρ B w0 ls hp' w' := by
 unfold yR at h
 split at h
 ·rename_i l off
  obtain ⟨a, ha, rfl⟩ := ha
  split at h
  ·rename_i cs n ty cs' hc hn hx
   split at h
   ·rename_i hif
    simp only [Bool.and_eq_true, beq_iff_eq, decide_eq_true_eq] at hif
    obtain ⟨hlen, hle⟩ := hif
    cases h
    obtain ⟨vs, e1, e2, e3⟩ := cW hc hv
    obtain ⟨w', hrun, dZ⟩ := kI (P := P) cs vs w hp l off 0 a ty cs' hh hx ha (by omega) e2 e3
    have hsz : vs.length = n := by rw [← e2.len]; exact hlen.symm
    exact ⟨_, w', rfl, by simp [storeVar, run_sizeOf hn, e1, hsz, hrun], dZ⟩
   ·cases h
  ·cases h
 ·rename_i l sz i off
  obtain ⟨a, N, C, ha, rfl, h0, hN⟩ := ha
  split at h
  ·rename_i cs n ty sh R m hi hc hn hx
   split at h
   ·rename_i hif
    simp only [Bool.and_eq_true, beq_iff_eq] at hif
    obtain ⟨hlen, rfl⟩ := hif
    split at h
    ·rename_i sh' R' hset
     cases h
     obtain ⟨vs, e1, e2, e3⟩ := cW hc hv
     obtain ⟨w', hrun, dZ⟩ := nU (P := P) cs vs w hp l off 0 a N C ty sh sh' R R' m i hi hh hx ha h0 hN hset e2 e3
     have hsz : vs.length = n := by rw [← e2.len]; exact hlen.symm
     exact ⟨_, w', rfl, by simp [storeVar, run_sizeOf hn, e1, hsz, hrun], dZ⟩
    ·cases h
   ·cases h
  ·cases h
 ·cases h
end
end Vc
end Go.Proofs.YtpmfkelglmgddaaGreatDoor
namespace Go.Proofs.YtpmfkelglmgddaaGreatDoor
namespace Vc
open Go Go.RowKit
set_option linter.unusedVariables false
def dc : Bool → E → List E
 | true, .and a b => .and a b :: (dc true a ++ dc true b)
 | false, .or a b => .not (.or a b) :: (dc false a ++ dc false b)
 | true, .not a => .not a :: dc false a
 | false, .not a => dc true a
 | true, e => [e]
 | false, e => [.not e]
theorem qz {ρ : Env} (g : E) : (∀ x, al ρ g = true → x ∈ dc true g → al ρ x = true) ∧ (∀ x, al ρ g = false → x ∈ dc false g → al ρ x = true) := by
 have hn : ∀ e, al ρ (.not e) = !al ρ e := fun _ => rfl
 have ha : ∀ a b, al ρ (.and a b) = (al ρ a && al ρ b) := fun _ _ => rfl
 have ho : ∀ a b, al ρ (.or a b) = (al ρ a || al ρ b) := fun _ _ => rfl
 induction g with
 | and a b iha ihb =>
  refine ⟨fun x h hx => ?_, fun x h hx => ?_⟩
  ·have h' := h
   rw [ha, Bool.and_eq_true] at h'
   simp only [dc, List.mem_cons, List.mem_append] at hx
   rcases hx with rfl | hx | hx
   ·exact h
   ·exact iha.1 x h'.1 hx
   ·exact ihb.1 x h'.2 hx
  ·simp only [dc, List.mem_singleton] at hx; subst hx; rw [hn, h]; rfl
 | or a b iha ihb =>
  refine ⟨fun x h hx => ?_, fun x h hx => ?_⟩
  ·simp only [dc, List.mem_singleton] at hx; subst hx; exact h
  ·have h' := h
   rw [ho, Bool.or_eq_false_iff] at h'
   simp only [dc, List.mem_cons, List.mem_append] at hx
   rcases hx with rfl | hx | hx
   ·rw [hn, h]; rfl
   ·exact iha.2 x h'.1 hx
   ·exact ihb.2 x h'.2 hx
 | not a iha =>
  refine ⟨fun x h hx => ?_, fun x h hx => ?_⟩
  ·have h' := h
   rw [hn, Bool.not_eq_true'] at h'
   simp only [dc, List.mem_cons] at hx
   rcases hx with rfl | hx
   ·exact h
   ·exact iha.2 x h' hx
  ·rw [hn, Bool.not_eq_false'] at h
   exact iha.1 x h hx
 | _ =>
  refine ⟨fun x h hx => ?_, fun x h hx => ?_⟩
  ·simp only [dc, List.mem_singleton] at hx; subst hx; exact h
  ·simp only [dc, List.mem_singleton] at hx; subst hx; rw [hn, h]; rfl
theorem iz {ρ : Env} {g x : E} (h : al ρ g = true) (hx : x ∈ dc true g) : al ρ x = true := (qz g).1 x h hx
def lJ : E → Bool
 | .bc b => b
 | _ => false
theorem bJ {ρ : Env} {e : E} (h : lJ e = true) : al ρ e = true := by
 cases e <;> simp_all [lJ, al, ev, dB, xB]
def eC (x : E) (l : List E) : Bool := l.any (aY x)
theorem eS {x : E} {l : List E} (h : eC x l = true) : x ∈ l := by
 simp only [eC, List.any_eq_true] at h
 obtain ⟨y, hy, he⟩ := h
 rw [aG he]; exact hy
def impl (G g : E) : Bool := lJ g || eC g (dc true G)
theorem uN {ρ : Env} {G g : E} (h : impl G g = true) (hG : al ρ G = true) : al ρ g = true := by
 simp only [impl, Bool.or_eq_true] at h
 rcases h with h | h
 ·exact bJ h
 ·exact iz hG (eS h)
inductive Tr where
 | lf
 | nd (l : Tr) (v : Tm) (r : Tr)
 deriving Inhabited
def Tr.get : Tr → Nat → Option Tm
 | .lf, _ => none
 | .nd _ v _, 0 => some v
 | .nd l _ r, m + 1 => cond (Nat.beq (Nat.mod m 2) 0) (l.get (Nat.div m 2)) (r.get (Nat.div m 2))
def Tr.set : Tr → Nat → Tm → Tr
 | .lf, _, _ => .lf
 | .nd l _ r, 0, x => .nd l x r
 | .nd l v r, m + 1, x => cond (Nat.beq (Nat.mod m 2) 0) (.nd (l.set (Nat.div m 2) x) v r) (.nd l v (r.set (Nat.div m 2) x))
def Tr.full (x : Tm) : Nat → Tr
 | 0 => .lf
 | d + 1 => .nd (Tr.full x d) x (Tr.full x d)
def Tr.map (f : Tm → Tm) : Tr → Tr
 | .lf => .lf
 | .nd l v r => .nd (l.map f) (f v) (r.map f)
def Tr.zip (f : Tm → Tm → Tm) : Tr → Tr → Tr
 | .nd l v r, .nd l' v' r' => .nd (l.zip f l') (f v v') (r.zip f r')
 | _, _ => .lf
theorem Tr.mi : ∀ {t : Tr} {d e : Nat} {x y : Tm}, (t.set d x).get e = some y → (e = d ∧ y = x) ∨ (e ≠ d ∧ t.get e = some y)
 | .lf, d, e, x, y, h => by simp [Tr.set, Tr.get] at h
 | .nd l v r, 0, 0, x, y, h => by simp [Tr.set, Tr.get] at h; exact .inl ⟨rfl, h.symm⟩
 | .nd l v r, 0, e + 1, x, y, h => .inr ⟨by omega, h⟩
 | .nd l v r, d + 1, 0, x, y, h => by
  simp only [Tr.set] at h
  refine .inr ⟨by omega, ?_⟩
  cases hc : Nat.beq (Nat.mod d 2) 0 <;> rw [hc] at h <;> exact h
 | .nd l v r, d + 1, e + 1, x, y, h => by
  simp only [Tr.set] at h
  have hb : ∀ k : Nat, Nat.beq (Nat.mod k 2) 0 = decide (k % 2 = 0) := fun k => by
   show Nat.beq (k % 2) 0 = _
   cases hk : Nat.beq (k % 2) 0
   ·have := Nat.ne_of_beq_eq_false hk
    simp [this]
   ·have := Nat.eq_of_beq_eq_true hk
    simp [this]
  rw [hb] at h
  have hdiv : ∀ k : Nat, Nat.div k 2 = k / 2 := fun _ => rfl
  by_cases hd : d % 2 = 0 <;> by_cases he : e % 2 = 0 <;> simp only [hd, he, decide_true, decide_false, cond_true, cond_false, Tr.get, hb] at h ⊢
  ·rcases Tr.mi h with ⟨h1, h2⟩ | ⟨h1, h2⟩
   ·rw [hdiv, hdiv] at h1; exact .inl ⟨by omega, h2⟩
   ·rw [hdiv, hdiv] at h1; exact .inr ⟨by omega, h2⟩
  ·exact .inr ⟨by omega, h⟩
  ·exact .inr ⟨by omega, h⟩
  ·rcases Tr.mi h with ⟨h1, h2⟩ | ⟨h1, h2⟩
   ·rw [hdiv, hdiv] at h1; exact .inl ⟨by omega, h2⟩
   ·rw [hdiv, hdiv] at h1; exact .inr ⟨by omega, h2⟩
theorem Tr.wS {x y : Tm} : ∀ {n d : Nat}, (Tr.full x n).get d = some y → y = x
 | 0, d, h => by simp [Tr.full, Tr.get] at h
 | n + 1, 0, h => by simp [Tr.full, Tr.get] at h; exact h.symm
 | n + 1, d + 1, h => by
  simp only [Tr.full, Tr.get] at h
  cases hc : Nat.beq (Nat.mod d 2) 0 <;> rw [hc] at h <;> exact Tr.wS h
theorem Tr.get_map {f : Tm → Tm} : ∀ {t : Tr} {d : Nat} {y : Tm}, (t.map f).get d = some y → ∃ x, t.get d = some x ∧ y = f x
 | .lf, d, y, h => by simp [Tr.map, Tr.get] at h
 | .nd l v r, 0, y, h => by simp [Tr.map, Tr.get] at h; exact ⟨v, rfl, h.symm⟩
 | .nd l v r, d + 1, y, h => by
  simp only [Tr.map, Tr.get] at h ⊢
  cases hc : Nat.beq (Nat.mod d 2) 0 <;> rw [hc] at h <;> exact Tr.get_map h
theorem Tr.AT {f : Tm → Tm → Tm} : ∀ {t u : Tr} {d : Nat} {z : Tm}, (t.zip f u).get d = some z → ∃ x y, t.get d = some x ∧ u.get d = some y ∧ z = f x y
 | .lf, u, d, z, h => by simp [Tr.zip, Tr.get] at h
 | .nd l v r, .lf, d, z, h => by simp [Tr.zip, Tr.get] at h
 | .nd l v r, .nd l' v' r', 0, z, h => by simp [Tr.zip, Tr.get] at h; exact ⟨v, v', rfl, rfl, h.symm⟩
 | .nd l v r, .nd l' v' r', d + 1, z, h => by
  simp only [Tr.zip, Tr.get] at h ⊢
  cases hc : Nat.beq (Nat.mod d 2) 0 <;> rw [hc] at h <;> exact Tr.AT h
structure aw where
 n : Nat
 t : Tr
 deriving Inhabited
def aw.get (tm : aw) (d : Nat) : Option Tm := cond (Nat.blt d tm.n) (tm.t.get d) none
theorem aw.yS {tm : aw} {d : Nat} {x : Tm} (h : tm.get d = some x) : d < tm.n ∧ tm.t.get d = some x := by
 unfold aw.get at h
 cases hc : Nat.blt d tm.n <;> rw [hc] at h
 ·cases h
 ·exact ⟨Nat.le_of_ble_eq_true hc, h⟩
def cA (tm : aw) (G : E) : Operand → Option SV
 | .tmp t => match tm.get t with | some x => if impl G x.g then some x.v else none | none => none
 | .const v => some (EG v)
 | .func f => some (.c (.fn f [] []))
 | .global g => some (.c (.gl g 0))
def aX (ρ : Env) (ls : Ls) (tm : aw) (a : Act) : Prop := tm.n = a.tmps.size ∧ ∀ d t, d < tm.n → tm.t.get d = some t → RT ρ ls t (a.tmps.getD d undef)
theorem aX.at {ρ : Env} {ls : Ls} {tm : aw} {a : Act} (h : aX ρ ls tm a) {d : Nat} {t : Tm} (ht : tm.get d = some t) : RT ρ ls t (a.tmps.getD d undef) ∧ d < a.tmps.size := by
 obtain ⟨h1, h2⟩ := aw.yS ht
 exact ⟨h.2 d t h1 h2, by rw [← h.1]; exact h1⟩
theorem qA (a : Act) (d : Nat) : a.eval (.tmp d) = a.tmps.getD d undef := by
 simp [Act.eval, Array.getD_eq_getD_getElem?]
section
variable {P : Program} {ρ : Env} {B : Nat} {w0 w : World} {ls : Ls} {hp : SH} {tm : aw} {a : Act} {G : E}
theorem aj {x : Operand} {v : SV} (h : cA tm G x = some v) (hr : aX ρ ls tm a) (hG : al ρ G = true) : RV ρ ls v (a.eval x) := by
 cases x with
 | tmp t =>
  simp only [cA] at h
  split at h
  ·rename_i y hy
   split at h
   ·rename_i hi
    cases h
    rw [qA]
    exact (hr.at hy).1.1 (uN hi hG)
   ·cases h
  ·cases h
 | const v => cases h; exact pj ρ ls v
 | func f => cases h; exact ⟨[], [], rfl, trivial, trivial⟩
 | global g => cases h; exact rfl
def AU (c : E) : SC → SC → Option SC
 | .kW, _ => some .kW
 | _, .kW => some .kW
 | .int k a l1 h1, .int k' b l2 h2 => if k = k' then some (.int k (wM c a b) (min l1 l2) (max h1 h2)) else none
 | .bool a, .bool b => some (.bool (wN c a b))
 | .ptr l o, .ptr l' o' => if l = l' ∧ o = o' then some (.ptr l o) else none
 | _, _ => none
theorem qB {c : E} {x y s : SC} {u v : Value} (h : AU c x y = some s) (hx : al ρ c = true → RS ρ ls x u) (hy : al ρ c = false → RS ρ ls y v) : RS ρ ls s (bif al ρ c then u else v) := by
 unfold AU at h
 split at h
 ·cases h; trivial
 ·cases h; trivial
 ·rename_i k a l1 h1 k' b l2 h2
  split at h
  ·rename_i hk
   subst hk
   cases h
   have e := ED ρ c a b
   cases hc : al ρ c
   ·obtain ⟨g1, g2, g3⟩ := hy hc
    rw [show (ev ρ c).x.b = false from hc] at e
    have e' : aa ρ (wM c a b) = aa ρ b := e
    exact ⟨by rw [e']; exact g1, by omega, by omega⟩
   ·obtain ⟨g1, g2, g3⟩ := hx hc
    rw [show (ev ρ c).x.b = true from hc] at e
    have e' : aa ρ (wM c a b) = aa ρ a := e
    exact ⟨by rw [e']; exact g1, by omega, by omega⟩
  ·cases h
 ·rename_i a b
  cases h
  have e := EE ρ c a b
  cases hc : al ρ c
  ·have g := hy hc
   rw [show (ev ρ c).x.b = false from hc] at e
   have e' : al ρ (wN c a b) = al ρ b := e
   simp only [RS, e']; exact g
  ·have g := hx hc
   rw [show (ev ρ c).x.b = true from hc] at e
   have e' : al ρ (wN c a b) = al ρ a := e
   simp only [RS, e']; exact g
 ·split at h
  ·rename_i hk
   obtain ⟨rfl, rfl⟩ := hk
   cases h
   cases hc : al ρ c
   ·exact hy hc
   ·exact hx hc
  ·cases h
 ·cases h
def Cf (c : E) : List SC → List SC → Option (List SC)
 | [], [] => some []
 | x :: xs, y :: ys => match AU c x y, Cf c xs ys with | some z, some zs => some (z :: zs) | _, _ => none
 | _, _ => none
theorem mj {c : E} : ∀ {xs ys zs : List SC} {us vs : List Value}, Cf c xs ys = some zs → (al ρ c = true → ai (RS ρ ls) xs us) → (al ρ c = false → ai (RS ρ ls) ys vs) → ai (RS ρ ls) zs (bif al ρ c then us else vs)
 | [], [], zs, us, vs, h, hx, hy => by
  cases h
  cases hc : al ρ c
  ·have := hy hc; cases vs with | nil => trivial | cons _ _ => exact this.elim
  ·have := hx hc; cases us with | nil => trivial | cons _ _ => exact this.elim
 | x :: xs, y :: ys, zs, us, vs, h, hx, hy => by
  simp only [Cf] at h
  split at h
  ·rename_i z zs' hz hzs
   cases h
   cases hc : al ρ c
   ·have hv := hy hc
    cases vs with
    | nil => exact hv.elim
    | cons v vs =>
     have h1 := qB (ρ := ρ) (ls := ls) (u := v) (v := v) hz (fun e => by rw [hc] at e; cases e) (fun _ => hv.1)
     have h2 := mj (us := vs) (vs := vs) hzs (fun e => by rw [hc] at e; cases e) (fun _ => hv.2)
     rw [hc] at h1 h2
     exact ⟨h1, h2⟩
   ·have hu := hx hc
    cases us with
    | nil => exact hu.elim
    | cons u us =>
     have h1 := qB (ρ := ρ) (ls := ls) (u := u) (v := u) hz (fun _ => hu.1) (fun e => by rw [hc] at e; cases e)
     have h2 := mj (us := us) (vs := us) hzs (fun _ => hu.2) (fun e => by rw [hc] at e; cases e)
     rw [hc] at h1 h2
     exact ⟨h1, h2⟩
  ·cases h
 | [], _ :: _, _, _, _, h, _, _ => by cases h
 | _ :: _, [], _, _, _, h, _, _ => by cases h
def EN (c : E) (x y : Bool × List SC) : Option (Bool × List SC) := if x.1 = y.1 then (Cf c x.2 y.2).map fun z => (x.1, z) else none
theorem nv {c : E} {xs ys zs : List SC} {vs : List Value} (h : Cf c xs ys = some zs) (hx : al ρ c = true → ai (RS ρ ls) xs vs) (hy : al ρ c = false → ai (RS ρ ls) ys vs) : ai (RS ρ ls) zs vs := by
 have := mj (us := vs) (vs := vs) h hx hy
 have e : (bif al ρ c then vs else vs) = vs := by cases al ρ c <;> rfl
 rwa [e] at this
theorem EO {c : E} {x y z : Bool × List SC} {v : Value} (h : EN c x y = some z) (hx : al ρ c = true → RE ρ ls x v) (hy : al ρ c = false → RE ρ ls y v) : RE ρ ls z v := by
 obtain ⟨b, l⟩ := x
 obtain ⟨b', l'⟩ := y
 simp only [EN] at h
 split at h
 ·rename_i hb
  subst hb
  rw [Option.map_eq_some_iff] at h
  obtain ⟨zs, hz, rfl⟩ := h
  cases b with
  | true =>
   cases hc : al ρ c
   ·obtain ⟨vs, rfl, hv⟩ := hy hc
    exact ⟨vs, rfl, nv hz (fun e => by rw [hc] at e; cases e) (fun _ => hv)⟩
   ·obtain ⟨vs, rfl, hv⟩ := hx hc
    exact ⟨vs, rfl, nv hz (fun _ => hv) (fun e => by rw [hc] at e; cases e)⟩
  | false =>
   have one : ∀ {l : List SC} {v : Value}, RE ρ ls (false, l) v → ∃ s, l = [s] ∧ RS ρ ls s v := fun {l v} hr => by
    match l, hr with
    | [s], hr => exact ⟨s, rfl, hr⟩
   have hall : ai (RS ρ ls) zs [v] := nv hz (fun e => by obtain ⟨s, rfl, hs⟩ := one (hx e); exact ⟨hs, trivial⟩) (fun e => by obtain ⟨s, rfl, hs⟩ := one (hy e); exact ⟨hs, trivial⟩)
   match zs, hall with
   | [z], hall => exact hall.1
 ·cases h
def H4 (c : E) : List (Bool × List SC) → List (Bool × List SC) → Option (List (Bool × List SC))
 | [], [] => some []
 | x :: xs, y :: ys => match EN c x y, H4 c xs ys with | some z, some zs => some (z :: zs) | _, _ => none
 | _, _ => none
theorem uO {c : E} : ∀ {xs ys zs : List (Bool × List SC)} {vs : List Value}, H4 c xs ys = some zs → (al ρ c = true → ai (RE ρ ls) xs vs) → (al ρ c = false → ai (RE ρ ls) ys vs) → ai (RE ρ ls) zs vs
 | [], [], zs, vs, h, hx, hy => by
  cases h
  cases hc : al ρ c
  ·have := hy hc; cases vs with | nil => trivial | cons _ _ => exact this.elim
  ·have := hx hc; cases vs with | nil => trivial | cons _ _ => exact this.elim
 | x :: xs, y :: ys, zs, vs, h, hx, hy => by
  simp only [H4] at h
  split at h
  ·rename_i z zs' hz hzs
   cases h
   cases vs with
   | nil => cases hc : al ρ c
            ·exact (hy hc).elim
            ·exact (hx hc).elim
   | cons v vs => exact ⟨EO hz (fun e => (hx e).1) (fun e => (hy e).1), uO hzs (fun e => (hx e).2) (fun e => (hy e).2)⟩
  ·cases h
 | [], _ :: _, _, _, h, _, _ => by cases h
 | _ :: _, [], _, _, h, _, _ => by cases h
def tp (c : E) : SV → SV → Option SV
 | .c x, .c y => (AU c x y).map .c
 | .agg x, .agg y => (Cf c x y).map .agg
 | .eJ x, .eJ y => (H4 c x y).map .eJ
 | _, _ => none
theorem gM {c : E} {x y s : SV} {u v : Value} (h : tp c x y = some s) (hx : al ρ c = true → RV ρ ls x u) (hy : al ρ c = false → RV ρ ls y v) : RV ρ ls s (bif al ρ c then u else v) := by
 unfold tp at h
 split at h
 ·rw [Option.map_eq_some_iff] at h
  obtain ⟨z, hz, rfl⟩ := h
  exact qB hz hx hy
 ·rename_i xs ys
  rw [Option.map_eq_some_iff] at h
  obtain ⟨z, hz, rfl⟩ := h
  cases hc : al ρ c
  ·obtain ⟨vs, rfl, hv⟩ := hy hc
   have := mj (us := vs) (vs := vs) hz (fun e => by rw [hc] at e; cases e) (fun _ => hv)
   rw [hc] at this
   exact ⟨vs, rfl, this⟩
  ·obtain ⟨us, rfl, hu⟩ := hx hc
   have := mj (us := us) (vs := us) hz (fun _ => hu) (fun e => by rw [hc] at e; cases e)
   rw [hc] at this
   exact ⟨us, rfl, this⟩
 ·rename_i xs ys
  rw [Option.map_eq_some_iff] at h
  obtain ⟨z, hz, rfl⟩ := h
  cases hc : al ρ c
  ·obtain ⟨vs, rfl, hv⟩ := hy hc
   exact ⟨vs, rfl, uO hz (fun e => by rw [hc] at e; cases e) (fun _ => hv)⟩
  ·obtain ⟨us, rfl, hu⟩ := hx hc
   exact ⟨us, rfl, uO hz (fun _ => hu) (fun e => by rw [hc] at e; cases e)⟩
 ·cases h
def LF (tm : aw) : Operand → Option Tm
 | .tmp t => tm.get t
 | .const v => some ⟨.bc true, EG v⟩
 | .func f => some ⟨.bc true, .c (.fn f [] [])⟩
 | .global g => some ⟨.bc true, .c (.gl g 0)⟩
theorem AV {x : Operand} {t : Tm} (h : LF tm x = some t) (hr : aX ρ ls tm a) (hg : al ρ t.g = true) : RV ρ ls t.v (a.eval x) := by
 cases x with
 | tmp n =>
  rw [qA]
  exact (hr.at h).1.1 hg
 | const v => cases h; exact pj ρ ls v
 | func f => cases h; exact ⟨[], [], rfl, trivial, trivial⟩
 | global g => cases h; exact rfl
def EP (tm : aw) (G : E) (c x y : Operand) : Option SV :=
 match cA tm G c with
 | some (.c (.bool (.bc true))) => cA tm G x
 | some (.c (.bool (.bc false))) => cA tm G y
 | some (.c (.bool e)) => match LF tm x, LF tm y with
  | some tx, some ty => if impl (.and G e) tx.g && impl (.and G (bp e)) ty.g then tp e tx.v ty.v else none
  | _, _ => none
 | _ => none
theorem ER {c x y : Operand} {v : SV} (h : EP tm G c x y = some v) (hr : aX ρ ls tm a) (hG : al ρ G = true) :
 ∃ b, a.eval c = .bool b ∧ RV ρ ls v (if b then a.eval x else a.eval y) := by
 unfold EP at h
 split at h
 ·rename_i hc
  exact ⟨true, aj hc hr hG, aj h hr hG⟩
 ·rename_i hc
  exact ⟨false, aj hc hr hG, aj h hr hG⟩
 ·rename_i e _ _ hc
  have he : a.eval c = .bool (al ρ e) := aj hc hr hG
  split at h
  ·rename_i tx ty hx hy
   split at h
   ·rename_i hi
    simp only [Bool.and_eq_true] at hi
    refine ⟨al ρ e, he, ?_⟩
    have := gM (ρ := ρ) (ls := ls) (u := a.eval x) (v := a.eval y) h
     (fun hb => AV hx hr (uN (ρ := ρ) hi.1 (by show (al ρ G && al ρ e) = true; rw [hG, hb]; rfl)))
     (fun hb => AV hy hr (uN (ρ := ρ) hi.2 (by show (al ρ G && al ρ (bp e)) = true; rw [hG]; show (ev ρ (bp e)).x.b = true; rw [bV, show (ev ρ e).x.b = false from hb]; rfl)))
    cases hb : al ρ e <;> rw [hb] at this <;> exact this
   ·cases h
  ·cases h
 ·cases h
def yT : E → E → E
 | .bc x, b => if x then b else bp b
 | a, .bc y => if y then a else bp a
 | a, b => if aY a b then .bc true else .iff a b
theorem uP (a b : E) : (ev ρ (yT a b)).x.b = ((ev ρ a).x.b == (ev ρ b).x.b) := by
 unfold yT
 split
 ·split <;> simp_all [ev, dB, xB, bV]
 ·split <;> simp_all [ev, dB, xB, bV]
 ·split
  ·rename_i h; rw [aG h]; simp [ev, dB, xB]
  ·simp [ev, dB, xB]
def ES (a : E) (c : Int) : E := match a with
 | .ic n => .ic (n / c)
 | a => if c = 1 then a else .div a (.ic c)
theorem qC (a : E) (c : Int) : aa ρ (ES a c) = aa ρ a / c := by
 unfold ES; split
 ·rfl
 ·split
  ·rename_i h; subst h; simp
  ·rfl
def LG (k : IntKind) (a : E) (l1 h1 : Int) (b : E) (l2 h2 : Int) : Option SC :=
 if 0 ≤ l2 ∧ h2 ≤ 8 ∨ 0 ≤ l2 ∧ h2 ≤ 63 ∧ k.bits = 64 then (match b with
  | .ic m => some (fit k (HY a (.ic (2 ^ m.toNat))) (l1 * 2 ^ m.toNat) (h1 * 2 ^ m.toNat))
  | _ => if 0 ≤ l1 then some (fit k (.shl a b) 0 (h1 * 2 ^ h2.toNat)) else none)
 else none
def LH (k : IntKind) (a : E) (l1 h1 : Int) (b : E) (l2 h2 : Int) : Option SC :=
 if 0 ≤ l2 ∧ h2 ≤ 8 ∨ 0 ≤ l2 ∧ h2 ≤ 63 ∧ k.bits = 64 then (match b with
  | .ic m => some (.int k (ES a (2 ^ m.toNat)) (l1 / 2 ^ m.toNat) (h1 / 2 ^ m.toNat))
  | _ => if 0 ≤ l1 then some (.int k (.shr a b) 0 h1) else none)
 else none
theorem Js (k : IntKind) : 8 ≤ k.bits := by cases k <;> decide
theorem H5 {k yk : IntKind} {e b : E} {l1 h1 l2 h2 : Int} {s : SC} {t : TypeId} (h : LG k e l1 h1 b l2 h2 = some s) (a1 : l1 ≤ aa ρ e) (a2 : aa ρ e ≤ h1) (b1 : l2 ≤ aa ρ b) (b2 : aa ρ b ≤ h2) :
 ∃ v, (binOp .shl t (.int k (aa ρ e)) (.int yk (aa ρ b))).run P w = .ok v w ∧ RS ρ ls s v := by
 unfold LG at h
 have hk := Js k
 split at h
 ·rename_i hc
  have hrun : (binOp .shl t (.int k (aa ρ e)) (.int yk (aa ρ b))).run P w = .ok (.int k (k.wrap (aa ρ e * 2 ^ (aa ρ b).toNat))) w := by
   rw [binOp_shl, shift_shl k yk _ _ (by omega) (by omega)]; rfl
  refine ⟨_, hrun, ?_⟩
  have hp : ∀ n : Nat, (0 : Int) < 2 ^ n := fun n => Int.pow_pos (by decide)
  split at h
  ·rename_i m
   cases h
   have hm : aa ρ (.ic m) = m := rfl
   rw [hm]
   refine dg (by rw [aa, AM]; rfl) ?_ ?_
   ·exact Int.mul_le_mul_of_nonneg_right a1 (Int.le_of_lt (hp _))
   ·exact Int.mul_le_mul_of_nonneg_right a2 (Int.le_of_lt (hp _))
  ·split at h
   ·rename_i h0
    cases h
    refine dg rfl ?_ ?_
    ·exact Int.mul_nonneg (by omega) (Int.le_of_lt (hp _))
    ·have q1 : aa ρ e * 2 ^ (aa ρ b).toNat ≤ h1 * 2 ^ (aa ρ b).toNat := Int.mul_le_mul_of_nonneg_right a2 (Int.le_of_lt (hp _))
     have q2 : ((2 : Int) ^ (aa ρ b).toNat) ≤ 2 ^ h2.toNat := by
      have : (2 : Nat) ^ (aa ρ b).toNat ≤ 2 ^ h2.toNat := Nat.pow_le_pow_right (by decide) (by omega)
      have := Int.ofNat_le.2 this
      simpa using this
     have q3 : h1 * 2 ^ (aa ρ b).toNat ≤ h1 * 2 ^ h2.toNat := Int.mul_le_mul_of_nonneg_left q2 (by omega)
     omega
   ·cases h
 ·cases h
theorem H6 {k yk : IntKind} {e b : E} {l1 h1 l2 h2 : Int} {s : SC} {t : TypeId} (h : LH k e l1 h1 b l2 h2 = some s) (a1 : l1 ≤ aa ρ e) (a2 : aa ρ e ≤ h1) (b1 : l2 ≤ aa ρ b) (b2 : aa ρ b ≤ h2) :
 ∃ v, (binOp .shr t (.int k (aa ρ e)) (.int yk (aa ρ b))).run P w = .ok v w ∧ RS ρ ls s v := by
 unfold LH at h
 have hk := Js k
 split at h
 ·rename_i hc
  have hrun : (binOp .shr t (.int k (aa ρ e)) (.int yk (aa ρ b))).run P w = .ok (.int k (aa ρ e / 2 ^ (aa ρ b).toNat)) w := by
   rw [binOp_shr, shift_shr k yk _ _ (by omega) (by omega)]; rfl
  refine ⟨_, hrun, ?_⟩
  have hp : ∀ n : Nat, (0 : Int) < 2 ^ n := fun n => Int.pow_pos (by decide)
  split at h
  ·rename_i m
   cases h
   have hm : aa ρ (.ic m) = m := rfl
   rw [hm]
   exact ⟨by rw [qC], by rw [qC]; exact Int.ediv_le_ediv (hp _) a1, by rw [qC]; exact Int.ediv_le_ediv (hp _) a2⟩
  ·split at h
   ·rename_i h0
    cases h
    have hx : 0 ≤ aa ρ e := by omega
    have q1 : 0 ≤ aa ρ e / 2 ^ (aa ρ b).toNat := Int.ediv_nonneg hx (Int.le_of_lt (hp _))
    have q2 : aa ρ e / 2 ^ (aa ρ b).toNat ≤ aa ρ e := Int.ediv_le_self _ hx
    exact ⟨rfl, q1, by show aa ρ e / 2 ^ (aa ρ b).toNat ≤ h1; omega⟩
   ·cases h
 ·cases h
inductive Kd where
 | int (k : IntKind) | bool | str
 deriving DecidableEq, Inhabited
def Dc : Kd → Value → Prop
 | .int k, v => ∃ n, v = .int k n
 | .bool, v => ∃ b, v = .bool b
 | .str, v => ∃ s, v = .string s
def H7 : Value → Value → Bool
 | .int _ a, .int _ b => a == b
 | .bool a, .bool b => a == b
 | .string a, .string b => a.toList == b.toList
 | _, _ => false
def fj : List Value → List Value → Bool
 | [], [] => true
 | x :: xs, y :: ys => H7 x y && fj xs ys
 | _, _ => false
structure im (P : Program) (t : TypeId) (ks : List Kd) : Prop where
 guard : P.eqGuardType P.depth t = false
 eq : ∀ (xs ys : List Value) (w : World), ai Dc ks xs → ai Dc ks ys → (Op.equal t (.agg xs.toArray) (.agg ys.toArray)).run P w = .ok (fj xs ys) w
def H8 : SC → Option E
 | .str e _ => some e
 | .di (.string s) => some (.cv (.string s))
 | _ => none
def H9 : E → E → E
 | .cv (.string a), .cv (.string b) => .bc (a.toList == b.toList)
 | a, b => .De a b
theorem AW {ρ : Env} {ls : Ls} {x : SC} {e : E} {v : Value} (h : H8 x = some e) (hr : RS ρ ls x v) : ∃ s : ByteArray, v = .string s ∧ (ev ρ e).x.v = .string s := by
 unfold H8 at h
 split at h
 ·cases h
  obtain ⟨s, rfl, h2, _⟩ := hr
  exact ⟨s, rfl, h2⟩
 ·cases h
  have hr : v = _ := hr
  exact ⟨_, hr, rfl⟩
 ·cases h
theorem H' {ρ : Env} {a b : E} : al ρ (H9 a b) = mb (ev ρ a).x.v (ev ρ b).x.v := by
 unfold H9
 split
 ·rfl
 ·rfl
def dx : List Kd → List SC → List SC → Option E
 | [], [], [] => some (.bc true)
 | .int k :: ks, .int k1 a l1 h1 :: xs, .int k2 b l2 h2 :: ys =>
  if k1 = k ∧ k2 = k then (match nr .eql k a l1 h1 b l2 h2, dx ks xs ys with | some (.bool e), some r => some (kx e r) | _, _ => none) else none
 | .bool :: ks, .bool a :: xs, .bool b :: ys => match dx ks xs ys with | some r => some (kx (yT a b) r) | none => none
 | .str :: ks, x :: xs, y :: ys => (match H8 x, H8 y, dx ks xs ys with | some a, some b, some r => some (kx (H9 a b) r) | _, _, _ => none)
 | _, _, _ => none
theorem Cg {k : IntKind} {a b e : E} {l1 h1 l2 h2 : Int} (h : nr .eql k a l1 h1 b l2 h2 = some (.bool e)) (a1 : l1 ≤ aa ρ a) (a2 : aa ρ a ≤ h1) (b1 : l2 ≤ aa ρ b) (b2 : aa ρ b ≤ h2) : al ρ e = (aa ρ a == aa ρ b) := by
 simp only [nr, Option.some.injEq, SC.bool.injEq] at h
 subst h
 generalize hx : aa ρ a = x at *
 generalize hy : aa ρ b = y at *
 split
 ·rename_i hc; simp [al, ev, dB, xB]; omega
 ·split
  ·rename_i hc; simp [al, ev, dB, xB]; omega
  ·split
   ·rename_i hc; simp [al, ev, dB, xB]; omega
   ·split
    ·rename_i he
     have : x = y := by rw [← hx, ← hy, aG he]
     simp [al, ev, dB, xB, this]
    ·simp only [al, EI, ev, dB, xB]; rw [← hx, ← hy]; rfl
theorem yU {ks : List Kd} : ∀ {xs ys : List SC} {us vs : List Value} {e : E}, dx ks xs ys = some e → ai (RS ρ ls) xs us → ai (RS ρ ls) ys vs → ai Dc ks us ∧ ai Dc ks vs ∧ al ρ e = fj us vs := by
 induction ks with
 | nil =>
  intro xs ys us vs e h hx hy
  cases xs with
  | cons _ _ => cases ys <;> simp [dx] at h
  | nil => cases ys with
   | cons _ _ => simp [dx] at h
   | nil => cases us with
    | cons _ _ => exact hx.elim
    | nil => cases vs with
     | cons _ _ => exact hy.elim
     | nil => cases h; exact ⟨trivial, trivial, rfl⟩
 | cons k ks ih =>
  intro xs ys us vs e h hx hy
  cases xs with
  | nil => cases k <;> simp [dx] at h
  | cons x xs => cases ys with
   | nil => cases k <;> cases x <;> simp [dx] at h
   | cons y ys => cases us with
    | nil => exact hx.elim
    | cons u us => cases vs with
     | nil => exact hy.elim
     | cons v vs =>
      cases k with
      | int k =>
       cases x <;> cases y <;> simp only [dx] at h <;> try (cases h; done)
       rename_i k1 a l1 h1 k2 b l2 h2
       split at h
       ·rename_i hk
        obtain ⟨rfl, rfl⟩ := hk
        split at h
        ·rename_i c r hb hrr
         cases h
         obtain ⟨⟨rfl, x2, x3⟩, hx'⟩ := hx
         obtain ⟨⟨rfl, y2, y3⟩, hy'⟩ := hy
         obtain ⟨i1, i2, i3⟩ := ih hrr hx' hy'
         refine ⟨⟨⟨_, rfl⟩, i1⟩, ⟨⟨_, rfl⟩, i2⟩, ?_⟩
         show (ev ρ (kx c r)).x.b = _
         rw [j4]
         show (al ρ c && al ρ r) = _
         rw [Cg hb x2 x3 y2 y3, i3]; rfl
        ·cases h
       ·cases h
      | bool =>
       cases x <;> cases y <;> simp only [dx] at h <;> try (cases h; done)
       rename_i a b
       split at h
       ·rename_i r hrr
        cases h
        obtain ⟨hx0, hx'⟩ := hx
        obtain ⟨hy0, hy'⟩ := hy
        have hx1 : u = .bool (al ρ a) := hx0
        have hy1 : v = .bool (al ρ b) := hy0
        subst hx1 hy1
        obtain ⟨i1, i2, i3⟩ := ih hrr hx' hy'
        refine ⟨⟨⟨_, rfl⟩, i1⟩, ⟨⟨_, rfl⟩, i2⟩, ?_⟩
        show (ev ρ (kx _ r)).x.b = _
        rw [j4, uP]
        show ((al ρ a == al ρ b) && al ρ r) = _
        rw [i3]; rfl
       ·cases h
      | str =>
       simp only [dx] at h
       split at h
       ·rename_i a b r ha hb hrr
        cases h
        obtain ⟨hx0, hx'⟩ := hx
        obtain ⟨hy0, hy'⟩ := hy
        obtain ⟨s1, rfl, q1⟩ := AW ha hx0
        obtain ⟨s2, rfl, q2⟩ := AW hb hy0
        obtain ⟨i1, i2, i3⟩ := ih hrr hx' hy'
        refine ⟨⟨⟨_, rfl⟩, i1⟩, ⟨⟨_, rfl⟩, i2⟩, ?_⟩
        show (ev ρ (kx _ r)).x.b = _
        rw [j4]
        show (al ρ (H9 a b) && al ρ r) = _
        rw [H', q1, q2, i3]; rfl
       ·cases h
end
end Vc
end Go.Proofs.YtpmfkelglmgddaaGreatDoor
namespace Go.Proofs.YtpmfkelglmgddaaGreatDoor
namespace Vc
open Go Go.RowKit
set_option linter.unusedVariables false
inductive Ck where
 | int (k : IntKind) (lo hi : Int) | bool | ln (hi : Int) | di (v : Value) | str (hi : Int)
 deriving Inhabited
inductive Sh where
 | one (k : Ck) | agg (ks : List Ck)
 deriving Inhabited
inductive Rs where
 | one (r : Ck) | agg (rs : List Ck) | eJ (l : List (Bool × List Ck))
 deriving Inhabited
structure kq where
 f : FuncId
 args : List Sh
 res : Rs
 pre : Option Nat
 fs : Nat
 deriving Inhabited
inductive RA where
 | int (k : IntKind) (lo hi : Int) | bool | str (hi : Int) | row (sh : List Sk) (hi : Int) | abs (t : Nat)
 deriving Inhabited
inductive iY where
 | one (k : RA) | agg (ks : List RA) | ptr (ks : List RA) | lH (ks : List RA)
 deriving Inhabited
inductive nV where
 | int (k : IntKind) (lo hi : Int) | bool | di (v : Value) | str (hi : Int) | row (ty : TypeId) (sh : List Sk) (hi : Int)
 deriving Inhabited
inductive BX where
 | one (r : nV) | agg (rs : List nV) | eJ (l : List (Bool × List nV))
 deriving Inhabited
structure br where
 f : FuncId
 args : List iY
 res : BX
 pre : Option Nat
 fs : Nat
 deriving Inhabited
inductive dV where
 | tmp (d : Nat) | part (d j : Nat) | cell (l j : Nat) | ex (e : E) | own (l : Nat) | ind (d j : Nat) | mS (l : Nat) | LI (d : Nat) | KV (d : Nat)
 deriving Inhabited
structure ba where
 path : List Nat
 m : Nat
 vars : List (dV × Int × Int)
 rows : List (dV × TypeId × List Sk × Int)
 extra : List dV
 pre : Nat
 yV : Nat
 deriving Inhabited
structure Ow where
 bg : List E
 pre : Option (Nat × E)
 deriving Inhabited
structure a8 where
 N4 : List (TypeId × List Kd)
 vV : List kq
 pJ : List kq
 fns : List (FuncId × Func)
 F : Option (Nat → List X → X)
 bL : List (Nat × List Value)
 JZ : List FuncId := []
 loops : List ba := []
 Ap : List br := []
 Pb : Nat → List X → Bool := fun _ _ => false
 QF : List FuncId := []
 ord : Bool := false
 Rc : List (List Nat × Nat) := []
 Q9 : List (List Nat × Nat) := []
 mX : aw → SH → E → Oper → Option (SV × Ow) := fun _ _ _ _ => none
 mY : aw → SH → E → Oper → Option (SV × SH × Ow) := fun _ _ _ _ => none
def qD : List (TypeId × List Kd) → TypeId → Option (List Kd)
 | [], _ => none
 | (u, ks) :: r, t => if u == t then some ks else qD r t
def LJ (P : Program) (cf : a8) : Prop := ∀ t ks, qD cf.N4 t = some ks → im P t ks
def uQ (P : Program) (t : TypeId) : Bool := match P.underlying t with | some .bool => true | _ => false
theorem yW {P : Program} {t : TypeId} (h : uQ P t = true) : P.underlying t = some .bool := by
 unfold uQ at h; split at h
 ·assumption
 ·cases h
def LK (P : Program) (cf : a8) (op : BinOp) (t : TypeId) (x y : SV) : Option SV :=
 match x, y with
 | .c (.int k a l1 h1), .c (.int k' b l2 h2) =>
  (match op with
    | .shl => (LG k a l1 h1 b l2 h2).map .c
    | .shr => (LH k a l1 h1 b l2 h2).map .c
    | op => if k = k' then (nr op k a l1 h1 b l2 h2).map .c else none)
 | .c (.bool a), .c (.bool b) => if uQ P t then (match op with
  | .eql => some (.c (.bool (yT a b)))
  | .neq => some (.c (.bool (bp (yT a b))))
  | _ => none) else none
 | .c (.di (.string a)), .c (.di (.string b)) => (match op with
  | .eql => some (.c (.bool (.bc (a.toList == b.toList))))
  | .neq => some (.c (.bool (.bc (!(a.toList == b.toList)))))
  | .add => if a.size + b.size ≤ 1000 then some (.c (.di (.string (a ++ b)))) else none
  | _ => none)
 | .c (.str a _), .c (.str b _) => (match op with
  | .eql => some (.c (.bool (.De a b)))
  | .neq => some (.c (.bool (.not (.De a b))))
  | _ => none)
 | .c (.str a _), .c (.di (.string b)) => (match op with
  | .eql => some (.c (.bool (.De a (.cv (.string b)))))
  | .neq => some (.c (.bool (.not (.De a (.cv (.string b))))))
  | _ => none)
 | .c (.di (.string a)), .c (.str b _) => (match op with
  | .eql => some (.c (.bool (.De (.cv (.string a)) b)))
  | .neq => some (.c (.bool (.not (.De (.cv (.string a)) b))))
  | _ => none)
 | .agg xs, .agg ys => (match qD cf.N4 t with
  | some ks => (match dx ks xs ys with
   | some e => (match op with
    | .eql => some (.c (.bool e))
    | .neq => some (.c (.bool (bp e)))
    | _ => none)
   | none => none)
  | none => none)
 | _, _ => none
section
variable {P : Program} {ρ : Env} {B : Nat} {w0 w : World} {ls : Ls} {hp : SH} {tm : aw} {a : Act} {G : E} {cf : a8}
theorem Ia {op : BinOp} {t : TypeId} {x y s : SV} {u v : Value} {X Y : Operand} (h : LK P cf op t x y = some s) (hc : LJ P cf) (hx : RV ρ ls x u) (hy : RV ρ ls y v) :
 ∃ z, ((do eqGuard op t X Y u v; binOp op t u v) : Sem Value).run P w = .ok z w ∧ RV ρ ls s z := by
 unfold LK at h
 split at h
 ·rename_i k e l1 h1 k' b l2 h2
  obtain ⟨rfl, x2, x3⟩ := hx
  obtain ⟨rfl, y2, y3⟩ := hy
  rw [eqGuard_at_int]
  simp only [Sem.run_bind, Sem.run_pure, Result.andThen_ok]
  split at h
  ·rw [Option.map_eq_some_iff] at h
   obtain ⟨z, hz, rfl⟩ := h
   exact H5 hz x2 x3 y2 y3
  ·rw [Option.map_eq_some_iff] at h
   obtain ⟨z, hz, rfl⟩ := h
   exact H6 hz x2 x3 y2 y3
  ·split at h
   ·rename_i hk
    subst hk
    rw [Option.map_eq_some_iff] at h
    obtain ⟨z, hz, rfl⟩ := h
    exact Cd hz x2 x3 y2 y3
   ·cases h
 ·rename_i e b
  have hx' : u = .bool (al ρ e) := hx
  have hy' : v = .bool (al ρ b) := hy
  subst hx' hy'
  rw [eqGuard_at_bool]
  simp only [Sem.run_bind, Sem.run_pure, Result.andThen_ok]
  split at h
  ·rename_i ht
   have heq : (Op.equal t (.bool (al ρ e)) (.bool (al ρ b))).run P w = .ok (al ρ e == al ρ b) w := by
    simp only [Op.equal, Op.maxDepth]
    exact run_equalIn_bool' w 9999 t _ _ (yW ht)
   split at h
   ·cases h
    refine ⟨.bool (al ρ e == al ρ b), ?_, ?_⟩
    ·simp only [binOp]; simp [heq]
    ·show Value.bool _ = .bool (ev ρ (yT e b)).x.b
     rw [uP]
   ·cases h
    refine ⟨.bool (!(al ρ e == al ρ b)), ?_, ?_⟩
    ·simp only [binOp]; simp [heq]
    ·show Value.bool _ = .bool (ev ρ (bp (yT e b))).x.b
     rw [bV, uP]
   ·cases h
  ·cases h
 ·rename_i x y
  have hx' : u = .string x := hx
  have hy' : v = .string y := hy
  subst hx' hy'
  rw [eqGuard_at_string]
  simp only [Sem.run_bind, Sem.run_pure, Result.andThen_ok]
  split at h
  ·cases h
   exact ⟨_, by simp only [binOp, Op.stringOp]; rfl, rfl⟩
  ·cases h
   exact ⟨_, by simp only [binOp, Op.stringOp]; rfl, rfl⟩
  ·split at h
   ·rename_i hsz
    cases h
    refine ⟨.string (x ++ y), ?_, rfl⟩
    have : ¬ ((x.size + y.size : Nat) : Int) > IntKind.i64.max := by rw [IntKind.max_i64]; omega
    simp only [binOp, Op.stringOp]
    rw [if_neg this]; rfl
   ·cases h
  ·cases h
 ·obtain ⟨x, rfl, hx, _⟩ := hx
  obtain ⟨y, rfl, hy, _⟩ := hy
  rw [eqGuard_at_string]
  simp only [Sem.run_bind, Sem.run_pure, Result.andThen_ok]
  split at h
  ·cases h
   exact ⟨_, by simp only [binOp, Op.stringOp]; rfl, by show _ = Value.bool (mb _ _); rw [hx, hy]; rfl⟩
  ·cases h
   exact ⟨_, by simp only [binOp, Op.stringOp]; rfl, by show _ = Value.bool (!mb _ _); rw [hx, hy]; rfl⟩
  ·cases h
 ·rename_i y
  obtain ⟨x, rfl, hx, _⟩ := hx
  have hy : v = .string y := hy
  subst hy
  rw [eqGuard_at_string]
  simp only [Sem.run_bind, Sem.run_pure, Result.andThen_ok]
  split at h
  ·cases h
   exact ⟨_, by simp only [binOp, Op.stringOp]; rfl, by show _ = Value.bool (mb _ _); rw [hx]; rfl⟩
  ·cases h
   exact ⟨_, by simp only [binOp, Op.stringOp]; rfl, by show _ = Value.bool (!mb _ _); rw [hx]; rfl⟩
  ·cases h
 ·rename_i x b hi
  obtain ⟨y, rfl, hy, _⟩ := hy
  have hx : u = .string x := hx
  subst hx
  rw [eqGuard_at_string]
  simp only [Sem.run_bind, Sem.run_pure, Result.andThen_ok]
  split at h
  ·cases h
   exact ⟨_, by simp only [binOp, Op.stringOp]; rfl, by show _ = Value.bool (mb _ _); rw [hy]; rfl⟩
  ·cases h
   exact ⟨_, by simp only [binOp, Op.stringOp]; rfl, by show _ = Value.bool (!mb _ _); rw [hy]; rfl⟩
  ·cases h
 ·split at h
  ·rename_i ks hk
   split at h
   ·rename_i e he
    obtain ⟨us, rfl, hu⟩ := hx
    obtain ⟨vs, rfl, hv⟩ := hy
    obtain ⟨k1, k2, k3⟩ := yU he hu hv
    have hf := hc _ _ hk
    have heq := hf.eq us vs w k1 k2
    split at h
    ·cases h
     refine ⟨.bool (fj us vs), ?_, by show _ = Value.bool (al ρ e); rw [k3]⟩
     rw [Sem.run_bind, run_eqGuard_agg w _ t X Y _ _ hf.guard]
     simp only [Result.andThen_ok, binOp]
     simp [heq]
    ·cases h
     refine ⟨.bool (!fj us vs), ?_, by show _ = Value.bool (ev ρ (bp e)).x.b; rw [bV]; show _ = Value.bool (!al ρ e); rw [k3]⟩
     rw [Sem.run_bind, run_eqGuard_agg w _ t X Y _ _ hf.guard]
     simp only [Result.andThen_ok, binOp]
     simp [heq]
    ·cases h
   ·cases h
  ·cases h
 ·cases h
def yX (op : UnOp) : SV → Option SV
 | .c (.int k e lo hi) => (match op with | .neg => some (.c (fit k (uG (.ic 0) e) (-hi) (-lo))) | _ => none)
 | .c (.bool e) => (match op with | .not => some (.c (.bool (bp e))) | _ => none)
 | _ => none
theorem Ch {op : UnOp} {x s : SV} {u : Value} (h : yX op x = some s) (hx : RV ρ ls x u) : ∃ z, (Op.unary op u).run P w = .ok z w ∧ RV ρ ls s z := by
 unfold yX at h
 split at h
 ·rename_i k e lo hi
  obtain ⟨rfl, x2, x3⟩ := hx
  split at h
  ·cases h
   refine ⟨.int k (k.wrap (0 - aa ρ e)), rfl, ?_⟩
   exact dg (k := k) (e := uG (.ic 0) e) (lo := -hi) (hi := -lo) (n := 0 - aa ρ e) (by show (ev ρ (uG (.ic 0) e)).x.i = _; rw [uH]; rfl) (by omega) (by omega)
  ·cases h
 ·rename_i e
  have hx' : u = .bool (al ρ e) := hx
  subst hx'
  split at h
  ·cases h
   exact ⟨_, by simp [Op.unary]; rfl, by show _ = Value.bool (ev ρ (bp e)).x.b; rw [bV]⟩
  ·cases h
 ·cases h
def ET (P : Program) (src dst : TypeId) : SV → Option SV
 | .c (.int _ e lo hi) => (match P.underlying src, P.underlying dst with | some _, some (.int k') => some (.c (fit k' e lo hi)) | _, _ => none)
 | _ => none
theorem EU {src dst : TypeId} {x s : SV} {u : Value} (h : ET P src dst x = some s) (hx : RV ρ ls x u) : ∃ z, (convert src dst u).run P w = .ok z w ∧ RV ρ ls s z := by
 unfold ET at h
 split at h
 ·rename_i k e lo hi
  obtain ⟨rfl, x2, x3⟩ := hx
  split at h
  ·rename_i d k' hs hd
   cases h
   exact ⟨_, by simp [convert, run_underlying hs, run_underlying hd, Conv.intToInt], dg rfl x2 x3⟩
  ·cases h
 ·cases h
def lq (P : Program) (t : TypeId) (v : SV) (f : Nat) : Option SV :=
 match P.underlying t with
 | some (.struct fs) => (match fs[f]? with
  | some fd => (match dp P fd.type with
   | some (_ + 1) => (match v with
    | .c (.ptr l off) => some (.c (.ptr l (off + fd.offset)))
    | .c (.gl g off) => some (.c (.gl g (off + fd.offset)))
    | .c (.pe l sz i off) => some (.c (.pe l sz i (off + fd.offset)))
    | _ => none)
   | _ => none)
  | none => none)
 | _ => none
theorem sF {t : TypeId} {x s : SV} {u : Value} {f : Nat} (h : lq P t x f = some s) (hx : RV ρ ls x u) : ∃ z, (Instr.fieldAt t u f).run P w = .ok z w ∧ RV ρ ls s z := by
 unfold lq at h
 split at h
 ·rename_i fs ht
  split at h
  ·rename_i fd hf
   split at h
   ·rename_i n hn
    have hrun : ∀ a : Addr, (Instr.fieldAt t (.pointer (some a)) f).run P w = .ok (.pointer (some (a.add fd.offset))) w := fun a => by
     simp [Instr.fieldAt, run_underlying ht, hf, Instr.sureAddr, fieldPlace, run_sizeOf hn]
    split at h
    ·cases h
     obtain ⟨a, ha, rfl⟩ := hx
     exact ⟨_, hrun _, a, ha, by rw [add_add]⟩
    ·cases h
     have hx' : u = _ := hx
     subst hx'
     exact ⟨_, hrun _, by rw [Addr.add_lit]; rfl⟩
    ·cases h
     obtain ⟨a, N, C, h1, rfl, h2⟩ := hx
     exact ⟨_, hrun _, a, N, C, h1, by rw [add_add, Nat.add_assoc], h2⟩
    ·cases h
   ·cases h
  ·cases h
 ·cases h
def qh (i : E) (il ih : Int) (n : E) (nl : Int) : List E :=
 (if 0 ≤ il then [] else [.le (.ic 0) i]) ++ (if ih < nl then [] else [.lt i n])
theorem js {i n : E} {il ih nl : Int} (h : ∀ e ∈ qh i il ih n nl, al ρ e = true) (h1 : il ≤ aa ρ i) (h2 : aa ρ i ≤ ih) (h3 : nl ≤ aa ρ n) : 0 ≤ aa ρ i ∧ aa ρ i < aa ρ n := by
 simp only [qh, List.mem_append] at h
 constructor
 ·by_cases hc : 0 ≤ il
  ·omega
  ·have := h (.le (.ic 0) i) (.inl (by rw [if_neg hc]; simp))
   exact of_decide_eq_true this
 ·by_cases hc : ih < nl
  ·omega
  ·have := h (.lt i n) (.inr (by rw [if_neg hc]; simp))
   exact of_decide_eq_true this
def Ib : E → Int
 | .ic n => n
 | _ => 0
theorem AX {e : E} (h : 0 ≤ aa ρ e) : Ib e ≤ aa ρ e := by
 unfold Ib; split
 ·exact Int.le_refl _
 ·exact h
def lr (P : Program) (hp : SH) (t : TypeId) (v i : SV) : Option (SV × List E) :=
 match i with
 | .c (.int _ e il ih) => (match P.underlying t with
  | some (.array len el) => (match dp P el, eO e with
   | some sz, some n => if 0 ≤ n ∧ n < len then (match v with
    | .c (.ptr l off) => some (.c (.ptr l (off + n.toNat * sz)), [])
    | .c (.gl g off) => some (.c (.gl g (off + n.toNat * sz)), [])
    | .c (.pe l z j off) => some (.c (.pe l z j (off + n.toNat * sz)), [])
    | _ => none) else none
   | _, _ => none)
  | some (.slice el) => (match dp P el with
   | some sz => (match v with
    | .c (.sc l off n _) => (match eO e with
     | some k => if 0 ≤ k ∧ k < n then some (.c (.ptr l (off + k.toNat * sz)), []) else none
     | none => none)
    | .c (.ow l) => (match hp[l]? with
     | some ⟨_, _, .row _ _ n _⟩ => some (.c (.pe l sz e 0), qh e il ih n (Ib n))
     | some ⟨_, _, .grow sz' cs⟩ => (match eO e with
      | some k => if sz = sz' ∧ 0 ≤ k ∧ (k.toNat + 1) * sz ≤ cs.length then some (.c (.pe l sz (.ic k) 0), []) else none
      | none => none)
     | _ => none)
    | .c (.sl l z lo n _) => if z = sz then some (.c (.pe l sz (oK lo e) 0), qh e il ih n (Ib n)) else none
    | _ => none)
   | none => none)
  | _ => none)
 | _ => none
theorem iA {t el : TypeId} {len sz : Nat} {a : Addr} {k : IntKind} {n : Int} (ht : P.underlying t = some (.array len el)) (hsz : dp P el = some sz) (hn : 0 ≤ n ∧ n < len) :
 (Instr.indexAt t (.pointer (some a)) (.int k n)).run P w = .ok (.pointer (some (a.add (n.toNat * sz)))) w := by
 simp [Instr.indexAt, run_underlying ht, Instr.sureAddr, asIntOf, hn, run_sizeOf hsz]
theorem cU {t el : TypeId} {len cap sz : Nat} {a : Addr} {k : IntKind} {n : Int} (ht : P.underlying t = some (.slice el)) (hsz : dp P el = some sz) (hn : 0 ≤ n ∧ n < len) :
 (Instr.indexAt t (.slice (some a) len cap) (.int k n)).run P w = .ok (.pointer (some (a.add (n.toNat * sz)))) w := by
 simp [Instr.indexAt, run_underlying ht, asIntOf, hn, run_sizeOf hsz]
theorem qE {l : Nat} {x : HE} {sh : List Sk} {R n : E} {hi : Int} (hk : x.k = .row sh R n hi) (h : aT ρ B w ls l x) (hn : 0 < (aa ρ n).toNat) : ∃ a c, ls[l]? = some (.slice (some a) (aa ρ n).toNat c) := by
 unfold aT at h
 rw [hk] at h
 obtain ⟨A, c, h1, h2, h3, h4, h5, h6, h7, h8⟩ := h
 cases hw : x.wr
 ·obtain ⟨a, rfl, _⟩ := h8 hw hn
  exact ⟨a, c, h1⟩
 ·rcases (h7 hw).2 with ⟨e, e'⟩ | ⟨g, cap, cur, e, _⟩
  ·omega
  ·injection e with e1; subst e1; exact ⟨_, c, h1⟩
theorem pk {l : Nat} {x : HE} {sh : List Sk} {R n : E} {hi : Int} (hk : x.k = .row sh R n hi) (h : aT ρ B w ls l x) : ∃ A c, ls[l]? = some (.slice A (aa ρ n).toNat c) ∧ 0 ≤ aa ρ n ∧ aa ρ n ≤ hi ∧ (aa ρ n).toNat ≤ c := by
 unfold aT at h
 rw [hk] at h
 obtain ⟨A, c, h1, h2, h3, h4, _⟩ := h
 exact ⟨A, c, h1, h2, h3, h4⟩
theorem sG {t : TypeId} {x y s : SV} {u v : Value} {bg : List E} (h : lr P hp t x y = some (s, bg)) (hh : aB ρ B w0 ls hp w) (hob : ∀ e ∈ bg, al ρ e = true) (hx : RV ρ ls x u) (hy : RV ρ ls y v) : ∃ z, (Instr.indexAt t u v).run P w = .ok z w ∧ RV ρ ls s z := by
 unfold lr at h
 split at h
 ·rename_i k e il ih
  obtain ⟨rfl, y2, y3⟩ := hy
  split at h
  ·rename_i len el ht
   split at h
   ·rename_i sz n hsz hc
    have he := fP hc
    subst he
    split at h
    ·rename_i hn
     have hn' : 0 ≤ aa ρ (.ic n) ∧ aa ρ (.ic n) < len := hn
     split at h
     ·cases h
      obtain ⟨a, ha, rfl⟩ := hx
      exact ⟨_, iA ht hsz hn', a, ha, by rw [add_add]; rfl⟩
     ·cases h
      have hx' : u = _ := hx
      subst hx'
      exact ⟨_, iA ht hsz hn', by rw [Addr.add_lit]; rfl⟩
     ·cases h
      obtain ⟨a, N, C, h1, rfl, h2⟩ := hx
      exact ⟨_, iA ht hsz hn', a, N, C, h1, by rw [add_add, Nat.add_assoc]; rfl, h2⟩
     ·cases h
    ·cases h
   ·cases h
  ·rename_i el ht
   split at h
   ·rename_i sz hsz
    split at h
    ·rename_i l off n cap
     split at h
     ·rename_i k' hc
      have he := fP hc
      subst he
      split at h
      ·rename_i hn
       cases h
       obtain ⟨_, a, ha, rfl⟩ := hx
       have hn' : 0 ≤ aa ρ (.ic k') ∧ aa ρ (.ic k') < n := hn
       exact ⟨_, cU ht hsz hn', a, ha, by rw [add_add]; rfl⟩
      ·cases h
     ·cases h
    ·rename_i l
     split at h
     ·rename_i b ty sh R n hi hl
      cases h
      obtain ⟨hx1, _⟩ := hx
      have hent := hh.bA l _ hl
      obtain ⟨A, c, g1, g2, g3, g4⟩ := pk rfl hent
      obtain ⟨i1, i2⟩ := js hob y2 y3 (AX g2)
      obtain ⟨a, c', e1⟩ := qE rfl hent (by omega)
      rw [hx1] at e1
      cases e1
      exact ⟨_, cU ht hsz ⟨i1, by omega⟩, a, _, c', hx1, by rw [Nat.add_zero], i1, by omega⟩
     ·rename_i b ty sz' cs hl
      split at h
      ·rename_i kk hc
       have he := fP hc
       subst he
       split at h
       ·rename_i hif
        obtain ⟨rfl, hk0, hkl⟩ := hif
        cases h
        obtain ⟨hx1, _⟩ := hx
        obtain ⟨_, h0, A, n, c, vs, h1, h2, h3, h4⟩ := hh.bA l _ hl
        rw [hx1] at h1
        cases h1
        have hlen := h3.len
        have hkn : kk.toNat < n := by
         have hm : (kk.toNat + 1) * sz ≤ n * sz := by omega
         exact Nat.le_of_mul_le_mul_right hm h0
        have hA : ∃ a, A = some a := by
         rcases h4.2 with ⟨e, e'⟩ | ⟨g, cap, cur, e, _⟩
         ·omega
         ·injection e with e1; exact ⟨_, e1⟩
        obtain ⟨a, rfl⟩ := hA
        exact ⟨_, cU ht hsz ⟨hk0, by show kk < _; omega⟩, a, n, c, hx1, by rw [Nat.add_zero], hk0, hkn⟩
       ·cases h
      ·cases h
     ·cases h
    ·rename_i l z lo n hi
     split at h
     ·rename_i hz
      subst hz
      cases h
      obtain ⟨A, N, C, A', c, g1, rfl, g2, g3, g4, g5, g6, g7⟩ := hx
      obtain ⟨i1, i2⟩ := js hob y2 y3 (AX g3)
      obtain ⟨a, rfl, rfl⟩ := g7 (by omega)
      have e : aa ρ (oK lo e) = aa ρ lo + aa ρ e := me ρ _ _
      refine ⟨_, cU ht hsz ⟨i1, by omega⟩, a, N, C, g1, ?_, by omega, by omega⟩
      rw [add_add, e, Nat.add_zero, ← Nat.add_mul]
      congr 4
      omega
     ·cases h
    ·cases h
   ·cases h
  ·cases h
 ·cases h
def yY (P : Program) (t : TypeId) (v : SV) (f : Nat) : Option SV :=
 match v, P.underlying t with
 | .agg cs, some (.struct fs) => (match fs[f]? with | some fd => tl P fd.type cs fd.offset | none => none)
 | _, _ => none
theorem Ci {t : TypeId} {x s : SV} {u : Value} {f : Nat} (h : yY P t x f = some s) (hx : RV ρ ls x u) : ∃ z, (Instr.field t u f).run P w = .ok z w ∧ RV ρ ls s z := by
 unfold yY at h
 split at h
 ·rename_i cs fs ht
  split at h
  ·rename_i fd hf
   obtain ⟨vs, rfl, hr⟩ := hx
   obtain ⟨z, hz, hr'⟩ := mg h hr w
   exact ⟨z, by simp [Instr.field, run_underlying ht, hf, asAgg, hz], hr'⟩
  ·cases h
 ·cases h
def yZ (P : Program) (t : TypeId) (v i : SV) : Option SV :=
 match v, i, P.underlying t with
 | .agg cs, .c (.int _ (.ic n) _ _), some (.array len el) => (match dp P el with
  | some sz => if 0 ≤ n ∧ n < len then tl P el cs (n.toNat * sz) else none
  | none => none)
 | .c (.di (.string s)), .c (.int _ (.ic n) _ _), some .string => if 0 ≤ n then (match s[n.toNat]? with
  | some b => some (.c (.int .u8 (.ic b.toNat) b.toNat b.toNat))
  | none => none) else none
 | _, _, _ => none
theorem Cj {t : TypeId} {x y s : SV} {u v : Value} (h : yZ P t x y = some s) (hx : RV ρ ls x u) (hy : RV ρ ls y v) : ∃ z, (Instr.index t u v).run P w = .ok z w ∧ RV ρ ls s z := by
 unfold yZ at h
 split at h
 ·rename_i cs k n lo hi len el ht
  split at h
  ·rename_i sz hsz
   split at h
   ·rename_i hn
    obtain ⟨vs, rfl, hr⟩ := hx
    obtain ⟨rfl, _, _⟩ := hy
    obtain ⟨z, hz, hr'⟩ := mg h hr w
    have e : aa ρ (.ic n) = n := rfl
    exact ⟨z, by simp [Instr.index, run_underlying ht, asIntOf, e, hn, run_sizeOf hsz, hz], hr'⟩
   ·cases h
  ·cases h
 ·rename_i str k n lo hi ht
  split at h
  ·rename_i hn
   split at h
   ·rename_i b hb
    cases h
    have hx' : u = _ := hx
    subst hx'
    obtain ⟨rfl, _, _⟩ := hy
    have e : aa ρ (.ic n) = n := rfl
    exact ⟨.int .u8 b.toNat, by simp [Instr.index, run_underlying ht, asIntOf, e, hn, hb], rfl, Int.le_refl _, Int.le_refl _⟩
   ·cases h
  ·cases h
 ·cases h
def pn (P : Program) (el : TypeId) (cs : List SC) (sz : Nat) (j : E) : Nat → Option SV
 | 0 => tl P el cs 0
 | n + 1 => (match pn P el cs sz j n, tl P el cs ((n + 1) * sz) with
  | some y, some x => tp (.eq j (.ic (n + 1 : Nat))) x y
  | _, _ => none)
theorem qF {el : TypeId} {cs : List SC} {vs : List Value} {sz : Nat} {j : E} (hr : ai (RS ρ ls) cs vs) : ∀ {n : Nat} {s : SV}, pn P el cs sz j n = some s → 0 ≤ aa ρ j → aa ρ j ≤ n → ∃ z, (part el vs.toArray ((aa ρ j).toNat * sz)).run P w = .ok z w ∧ RV ρ ls s z
 | 0, s, h, h0, h1 => by
  have e : (aa ρ j).toNat * sz = 0 := by rw [show (aa ρ j).toNat = 0 by omega, Nat.zero_mul]
  rw [e]
  exact mg h hr w
 | n + 1, s, h, h0, h1 => by
  unfold pn at h
  split at h
  ·rename_i y x hy hx
   by_cases he : aa ρ j = (n + 1 : Nat)
   ·have hc : al ρ (.eq j (.ic (n + 1 : Nat))) = true := decide_eq_true he
    obtain ⟨z, hz, hr'⟩ := mg hx hr w
    have := gM (u := z) (v := z) h (fun _ => hr') (fun e => by rw [hc] at e; cases e)
    rw [hc] at this
    exact ⟨z, by rw [he]; exact hz, this⟩
   ·have hc : al ρ (.eq j (.ic (n + 1 : Nat))) = false := decide_eq_false he
    obtain ⟨z, hz, hr'⟩ := qF hr hy h0 (by omega)
    have := gM (u := z) (v := z) h (fun e => by rw [hc] at e; cases e) (fun _ => hr')
    rw [hc] at this
    exact ⟨z, hz, this⟩
  ·cases h
def uR (P : Program) (t : TypeId) (v i : SV) : Option (SV × List E) :=
 match v, i, P.underlying t with
 | .c (.str e _), .c (.int _ j lo _), some .string => some (.c (.int .u8 (.Lx e j) 0 255), (if 0 ≤ lo then [] else [.le (.ic 0) j]) ++ [.lt j e])
 | .agg cs, .c (.int _ j lo hi), some (.array len el) => (match dp P el with
  | some sz => if 0 ≤ lo ∧ hi < len ∧ len ≤ 8 then (pn P el cs sz j (len - 1)).map fun s => (s, []) else none
  | none => none)
 | _, _, _ => none
theorem y8 {t : TypeId} {x y s : SV} {u v : Value} {bg : List E} (h : uR P t x y = some (s, bg)) (ho : ∀ e ∈ bg, al ρ e = true) (hx : RV ρ ls x u) (hy : RV ρ ls y v) : ∃ z, (Instr.index t u v).run P w = .ok z w ∧ RV ρ ls s z := by
 unfold uR at h
 split at h
 ·rename_i e hi k j lo hj ht
  cases h
  obtain ⟨str, rfl, h2, h3, _⟩ := hx
  obtain ⟨rfl, q1, _⟩ := hy
  have h4 : aa ρ j < aa ρ e := of_decide_eq_true (ho _ (List.mem_append_right _ (List.mem_singleton.2 rfl)))
  have h0 : 0 ≤ aa ρ j := by
   by_cases hlo : 0 ≤ lo
   ·omega
   ·have := ho (.le (.ic 0) j) (List.mem_append_left _ (by rw [if_neg hlo]; exact List.mem_singleton.2 rfl))
    exact of_decide_eq_true this
  have hlt : (aa ρ j).toNat < str.size := by omega
  have hlt' : (aa ρ j).toNat < str.data.size := hlt
  have hb : str[(aa ρ j).toNat]? = some str.data[(aa ρ j).toNat] := by
   rw [getElem?_pos str _ hlt]
   rfl
  refine ⟨.int .u8 (str.data[(aa ρ j).toNat]).toNat, by simp [Instr.index, run_underlying ht, asIntOf, h0, hb], ?_⟩
  have hv : Lz (.string str) (aa ρ j) = ((str.data[(aa ρ j).toNat]).toNat : Nat) := by
   show (((str.data.toList.getD (aa ρ j).toNat 0).toNat : Nat) : Int) = _
   rw [List.getD_eq_getElem?_getD, List.getElem?_eq_getElem (by simpa using hlt')]
   rfl
  have hv2 : aa ρ (.Lx e j) = ((str.data[(aa ρ j).toNat]).toNat : Nat) := by
   show Lz (ev ρ e).x.v (aa ρ j) = _
   rw [h2]; exact hv
  have hr := UInt8.toNat_lt (str.data[(aa ρ j).toNat])
  exact ⟨by rw [hv2], by rw [hv2]; omega, by rw [hv2]; omega⟩
 ·rename_i cs k j lo hi len el ht
  split at h
  ·rename_i sz hsz
   split at h
   ·rename_i hn
    obtain ⟨hn, hn2, _⟩ := hn
    rw [Option.map_eq_some_iff] at h
    obtain ⟨s', hs, he⟩ := h
    cases he
    obtain ⟨vs, rfl, hr⟩ := hx
    obtain ⟨rfl, q1, q2⟩ := hy
    obtain ⟨z, hz, hr'⟩ := qF (w := w) hr hs (by omega) (by omega)
    have hlt : 0 ≤ aa ρ j ∧ aa ρ j < len := by omega
    exact ⟨z, by simp [Instr.index, run_underlying ht, asIntOf, hlt, run_sizeOf hsz, hz], hr'⟩
   ·cases h
  ·cases h
 ·cases h
def qG (v : SV) (i : Nat) : Option SV :=
 match v with
 | .eJ l => (match l[i]? with | some (true, cs) => some (.agg cs) | some (false, [s]) => some (.c s) | _ => none)
 | _ => none
theorem wT {x s : SV} {u : Value} {i : Nat} (h : qG x i = some s) (hx : RV ρ ls x u) : ∃ z, (Instr.extract u i).run P w = .ok z w ∧ RV ρ ls s z := by
 unfold qG at h
 split at h
 ·obtain ⟨vs, rfl, hr⟩ := hx
  split at h
  ·rename_i cs hl
   cases h
   obtain ⟨z, hz, hr'⟩ := hr.get hl
   exact ⟨z, by simp [Instr.extract, hz], hr'⟩
  ·rename_i s' hl
   cases h
   obtain ⟨z, hz, hr'⟩ := hr.get hl
   exact ⟨z, by simp [Instr.extract, hz], hr'⟩
  ·cases h
 ·cases h
def EV (tm : aw) (G : E) : List Operand → Option (List PV)
 | [] => some []
 | x :: xs => match cA tm G x, EV tm G xs with | some (.c (.ptr l o)), some r => some ((l, o) :: r) | _, _ => none
theorem uS (hr : aX ρ ls tm a) (hG : al ρ G = true) : ∀ {xs : List Operand} {ps : List PV}, EV tm G xs = some ps → ai (RP ls) ps (xs.map a.eval)
 | [], _, h => by cases h; trivial
 | x :: xs, ps, h => by
  simp only [EV] at h
  split at h
  ·rename_i l o r hx hxs
   cases h
   exact ⟨aj hx hr hG, uS hr hG hxs⟩
  ·cases h
def zeroCells (P : Program) (t : TypeId) : Option (List SC) :=
 match P.info? t with
 | some i => (match i.zero with | some z => eN (EG z) | none => none)
 | none => none
theorem fC {t : TypeId} {l : List SC} (h : zeroCells P t = some l) (ρ : Env) (ls : Ls) :
 ∃ z vs, (∀ w, (zeroValue t).run P w = .ok z w) ∧ z.cells = List.toArray vs ∧ ai (RS ρ ls) l vs := by
 unfold zeroCells at h
 split at h
 ·rename_i i hi
  split at h
  ·rename_i z hz
   obtain ⟨vs, h1, h2, _⟩ := cW h (pj ρ ls z)
   exact ⟨z, vs, fun w => by simp [zeroValue, typeInfo, hi, hz], h1, h2⟩
  ·cases h
 ·cases h
def placesOf (P : Program) : List Field → Option (List (Nat × Nat))
 | [] => some []
 | f :: r => match dp P f.type, placesOf P r with | some n, some ps => some ((f.offset, n) :: ps) | _, _ => none
theorem tq : ∀ {fs : List Field} {ps : List (Nat × Nat)}, placesOf P fs = some ps → (fs.mapM (fun f => (do pure (f.offset, ← sizeOf f.type) : Sem (Nat × Nat)))).run P w = .ok ps w
 | [], _, h => by cases h; rfl
 | f :: r, ps, h => by
  simp only [placesOf] at h
  split at h
  ·rename_i n ps' hn hps
   cases h
   simp only [List.mapM_cons, Sem.run_bind, run_sizeOf hn, Result.andThen_ok, Sem.run_pure, tq hps]
  ·cases h
def tr (place : Nat → Option (Nat × Nat)) : List SC → List (Nat × SV) → Option (List SC)
 | cells, [] => some cells
 | cells, (i, v) :: rest => match place i, eN v with
  | some (off, size), some l => if l.length == size && decide (off + l.length ≤ cells.length) then tr place (setMany cells off l) rest else none
  | _, _ => none
theorem foldl_set : ∀ (us : List Value) (k : Nat) (vs : List Value) (off : Nat), (us.zipIdx k).foldl (fun (cs : Array Value) (x : Value × Nat) => cs.setIfInBounds (off + x.2) x.1) vs.toArray = (setMany vs (off + k) us).toArray
 | [], _, _, _ => rfl
 | u :: us, k, vs, off => by
  simp only [List.zipIdx_cons, List.foldl_cons, List.setIfInBounds_toArray, setMany]
  rw [foldl_set us (k + 1)]
  rfl
theorem ml {place : Nat → Option (Nat × Nat)} : ∀ {parts : List (Nat × SV)} {qs : List (Nat × Value)} {cs cs' : List SC} {vs : List Value}, tr place cs parts = some cs' → ai (RS ρ ls) cs vs → ai (fun p q => p.1 = q.1 ∧ RV ρ ls p.2 q.2) parts qs →
 ∃ vs', Instr.fill place vs.toArray qs = some (List.toArray vs') ∧ ai (RS ρ ls) cs' vs'
 | [], [], cs, cs', vs, h, hc, _ => by cases h; exact ⟨vs, rfl, hc⟩
 | (i, v) :: rest, (j, u) :: qs, cs, cs', vs, h, hc, hq => by
  obtain ⟨⟨rfl, hv⟩, hq'⟩ := hq
  simp only [tr] at h
  split at h
  ·rename_i off size l hp hl
   split at h
   ·rename_i hif
    simp only [Bool.and_eq_true, beq_iff_eq, decide_eq_true_eq] at hif
    obtain ⟨us, e1, e2, _⟩ := cW hl hv
    have n1 := e2.len
    have n2 := hc.len
    obtain ⟨vs', h1, h2⟩ := ml h (ai.setMany e2 off hc) hq'
    refine ⟨vs', ?_, h2⟩
    have hf : (u.cells.zipIdx.foldl (fun (cs : Array Value) (x : Value × Nat) => cs.setIfInBounds (off + x.2) x.1) vs.toArray) = (setMany vs off us).toArray := by
     rw [e1, ← Array.foldl_toList, Array.toList_zipIdx]
     exact foldl_set us 0 vs off
    simp only [Instr.fill, hp]
    have g1 : u.cells.size = size := by rw [e1]; simp; omega
    have g2 : ¬ (u.cells.size ≠ size || off + u.cells.size > vs.toArray.size) = true := by
     rw [g1]; simp; omega
    rw [if_neg g2]
    have hf' := hf
    first
     | rw [hf']; exact h1
     | (simp only [hf']; exact h1)
   ·cases h
  ·cases h
 | [], _ :: _, _, _, _, _, _, h => h.elim
 | _ :: _, [], _, _, _, _, _, h => h.elim
def partsOf (tm : aw) (G : E) : List (Nat × Operand) → Option (List (Nat × SV))
 | [] => some []
 | (i, x) :: r => match cA tm G x, partsOf tm G r with | some v, some ps => some ((i, v) :: ps) | _, _ => none
theorem iB (hr : aX ρ ls tm a) (hG : al ρ G = true) : ∀ {xs : List (Nat × Operand)} {ps : List (Nat × SV)}, partsOf tm G xs = some ps → ai (fun p q => p.1 = q.1 ∧ RV ρ ls p.2 q.2) ps (xs.map fun x => (x.1, a.eval x.2))
 | [], _, h => by cases h; trivial
 | (i, x) :: xs, ps, h => by
  simp only [partsOf] at h
  split at h
  ·rename_i v ps' hx hxs
   cases h
   exact ⟨⟨rfl, aj hx hr hG⟩, iB hr hG hxs⟩
  ·cases h
def y9 (P : Program) (t : TypeId) (ps : List (Nat × SV)) : Option SV :=
 match zeroCells P t, P.underlying t with
 | some z, some (.struct fs) => (match placesOf P fs.toList with | some pl => (tr (fun i => pl[i]?) z ps).map .agg | none => none)
 | some z, some (.array _ el) => (match dp P el with | some sz => (tr (fun i => some (i * sz, sz)) z ps).map .agg | none => none)
 | _, _ => none
theorem Cl {t : TypeId} {ps : List (Nat × SV)} {qs : List (Nat × Value)} {s : SV} (h : y9 P t ps = some s) (hq : ai (fun p q => p.1 = q.1 ∧ RV ρ ls p.2 q.2) ps qs) : ∃ z, (Instr.build t qs.toArray).run P w = .ok z w ∧ RV ρ ls s z := by
 unfold y9 at h
 split at h
 ·rename_i z fs hz ht
  obtain ⟨zv, vs, z1, z2, z3⟩ := fC hz ρ ls
  split at h
  ·rename_i pl hpl
   rw [Option.map_eq_some_iff] at h
   obtain ⟨cs', hf, rfl⟩ := h
   obtain ⟨vs', f1, f2⟩ := ml hf z3 hq
   refine ⟨.agg vs'.toArray, ?_, vs', rfl, f2⟩
   have hm := tq (P := P) (w := w) hpl
   have hfun : (fun (i : Nat) => (pl.toArray)[i]?) = fun (i : Nat) => pl[i]? := by funext i; simp
   simp only [Instr.build, Sem.run_bind, z1, Result.andThen_ok, run_underlying ht, z2, Array.mapM_eq_mapM_toList, Sem.run_map, hm]
   simp only [hfun, f1]
   rfl
  ·cases h
 ·rename_i z n el hz ht
  obtain ⟨zv, vs, z1, z2, z3⟩ := fC hz ρ ls
  split at h
  ·rename_i sz hsz
   rw [Option.map_eq_some_iff] at h
   obtain ⟨cs', hf, rfl⟩ := h
   obtain ⟨vs', f1, f2⟩ := ml hf z3 hq
   refine ⟨.agg vs'.toArray, ?_, vs', rfl, f2⟩
   simp only [Instr.build, Sem.run_bind, z1, Result.andThen_ok, run_underlying ht, z2, run_sizeOf hsz, f1]
   rfl
  ·cases h
 ·cases h
end
end Vc
end Go.Proofs.YtpmfkelglmgddaaGreatDoor
