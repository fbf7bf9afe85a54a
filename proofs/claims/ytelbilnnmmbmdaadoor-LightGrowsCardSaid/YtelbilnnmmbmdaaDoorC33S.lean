/- Layer 33, plain: light by queues. -/
import Derived.Test.YtelbilnnmmbmdaaDoorC33U
namespace Go.Proofs.YtelbilnnmmbmdaaDoor
namespace Vc
open Go Go.RowKit
set_option linter.unusedVariables false
section
variable {o Q e x : X} {i c m j h v a : Int}
def setO (o : X) (i c : Int) (e : X) (m : Int) : X := mkX (rwSet o.r i c e) m
def putQ (Q e x : X) : X := xR (rwSet (rwSet Q.r e.i (Q.r e.i (-1)).i x) e.i (-1) (xI ((Q.r e.i (-1)).i + 1)))
theorem lv_set : lvX (setO o i c e m) j h = if j = i ∧ h = c then e.i else lvX o j h := by
 show (if j = i ∧ h = c then e.y else o.r j h).i = _
 split <;> rfl
theorem qlen_put : qlen (putQ Q e x) v = if v = e.i then qlen Q v + 1 else qlen Q v := by
 show (if v = e.i ∧ (-1 : Int) = -1 then (xI ((Q.r e.i (-1)).i + 1)).y else if v = e.i ∧ (-1 : Int) = (Q.r e.i (-1)).i then x.y else Q.r v (-1)).i = _
 by_cases hv : v = e.i
 ·rw [if_pos ⟨hv, rfl⟩, if_pos hv, hv]; rfl
 ·rw [if_neg fun hc => hv hc.1, if_neg fun hc => hv hc.1, if_neg hv]; rfl
theorem qel_put (hm : 0 ≤ m) : qel (putQ Q e x) v m = if v = e.i ∧ m = qlen Q e.i then x.i else qel Q v m := by
 show (if v = e.i ∧ m = -1 then (xI ((Q.r e.i (-1)).i + 1)).y else if v = e.i ∧ m = (Q.r e.i (-1)).i then x.y else Q.r v m).i = _
 rw [if_neg fun hc => by omega]
 show _ = if v = e.i ∧ m = (Q.r e.i (-1)).i then x.i else qel Q v m
 split <;> rfl
theorem smC_off (hi : i < 0 ∨ h ≤ i) : ∀ {n : Nat}, (n : Int) ≤ h → smC (setO o i c e m) c n = smC o c n
 | 0, _ => rfl
 | n + 1, hn => by
  unfold smC
  rw [smC_off hi (n := n) (by omega), lv_set, if_neg (by omega)]
theorem smC_set (hi : 0 ≤ i) : ∀ {n : Nat}, i < n → smC (setO o i c e m) c n = smC o c n + (e.i - lvX o i c)
 | 0, hn => by omega
 | n + 1, hn => by
  unfold smC
  by_cases he : i = n
  ·rw [smC_off (h := n) (.inr (by omega)) (Int.le_refl _), lv_set, if_pos ⟨he.symm, rfl⟩, he]
   omega
  ·rw [smC_set hi (n := n) (by omega), lv_set, if_neg (by omega)]
   omega
theorem smQ_off : ∀ {n : Nat}, (n : Int) ≤ e.i → smQ (putQ Q e x) n = smQ Q n
 | 0, _ => rfl
 | n + 1, hn => by
  unfold smQ
  rw [smQ_off (n := n) (by omega), qlen_put, if_neg (by omega)]
theorem smQ_put (he : 0 ≤ e.i) : ∀ {n : Nat}, e.i < n → smQ (putQ Q e x) n = smQ Q n + 1
 | 0, hn => by omega
 | n + 1, hn => by
  unfold smQ
  by_cases h : e.i = n
  ·rw [smQ_off (n := n) (by omega), qlen_put, if_pos h.symm]
   omega
  ·rw [smQ_put he (n := n) (by omega), qlen_put, if_neg (by omega)]
   omega
theorem qlen_le (hn : ∀ v, 0 ≤ qlen Q v) : ∀ {n : Nat}, 0 ≤ v → v < n → qlen Q v ≤ smQ Q n
 | 0, h0, h1 => by omega
 | n + 1, h0, h1 => by
  have hz : ∀ m : Nat, 0 ≤ smQ Q m := fun m => by
   induction m with
   | zero => exact Int.le_refl _
   | succ m ih => unfold smQ; have := hn m; omega
  unfold smQ
  by_cases h : v = n
  ·have := hz n
   rw [h]
   omega
  ·have := qlen_le hn (n := n) h0 (by omega)
   have := hn n
   omega
theorem smC_rng : ∀ {n : Nat}, (∀ j : Int, 0 ≤ j → j < n → 0 ≤ lvX o j c ∧ lvX o j c ≤ 15) → 0 ≤ smC o c n ∧ smC o c n ≤ 15 * n
 | 0, _ => ⟨Int.le_refl _, Int.le_refl _⟩
 | n + 1, h => by
  have := smC_rng (n := n) fun j a b => h j a (by omega)
  have := h n (by omega) (by omega)
  unfold smC
  omega
theorem qu_mono (ha : 0 ≤ a) (h : quD Q v j a) : quD (putQ Q e x) v j a := by
 obtain ⟨m, h0, h1, h2⟩ := h
 refine ⟨m, h0, ?_, ?_⟩
 ·rw [qlen_put]; split <;> omega
 ·rw [qel_put (by omega), if_neg (by rintro ⟨rfl, rfl⟩; omega)]
  exact h2
theorem qu_new (ha : 0 ≤ a) (h : a ≤ qlen Q e.i) : quD (putQ Q e x) e.i x.i a :=
 ⟨qlen Q e.i, h, by rw [qlen_put, if_pos rfl]; omega, by rw [qel_put (by omega), if_pos ⟨rfl, rfl⟩]⟩
end
section
variable {b : Bx} {cs : List Int} {t k o Q e x : X} {i c m j v a d lev n : Int}
theorem ComQ.rng (H : ComQ b cs t k c o Q) (hv : b.vol = cs.length) (ht : (chkT t).2 = 0) (c0 : 0 ≤ c) (c1 : c < 4) (h0 : 0 ≤ j) (h1 : j < cs.length) : 0 ≤ lvX o j c ∧ lvX o j c ≤ 15 := by
 have := H.up j h0 h1
 have := (lfp_lv (stp_ok (k := k) hv ht) j c h0 h1 c0 c1).2
 have : fulF b cs t k j c ≤ 15 := this
 omega
theorem ComQ.left (H : ComQ b cs t k c o Q) (hv : b.vol = cs.length) (ht : (chkT t).2 = 0) (c0 : 0 ≤ c) (c1 : c < 4) : qlen Q lev ≤ leftQ cs c lev o Q := by
 have := (smC_rng (o := o) (c := c) (n := cs.length) fun j a d => H.rng hv ht c0 c1 a d).2
 unfold leftQ
 omega
theorem ComQ.qle (H : ComQ b cs t k c o Q) (hv : b.vol = cs.length) (ht : (chkT t).2 = 0) (c0 : 0 ≤ c) (c1 : c < 4) (v0 : 0 ≤ v) (v1 : v ≤ 15) : qlen Q v ≤ 15 * cs.length := by
 have h1 := (smC_rng (o := o) (c := c) (n := cs.length) fun j a d => H.rng hv ht c0 c1 a d).2
 have h2 := qlen_le H.nn (n := 16) v0 (by omega)
 have h3 := H.sum
 omega
theorem ComQ.put (H : ComQ b cs t k c o Q) (hi0 : 0 ≤ i) (hi1 : i < cs.length) (hx : x.i = i) (hk : knwX k i = true) (hlt : lvX o i c < e.i) (h15 : e.i ≤ 15) (hu : e.i ≤ fulF b cs t k i c) : ComQ b cs t k c (setO o i c e o.i) (putQ Q e x) where
 len := H.len
 lo j h j0 j1 h0 h1 := by
  have := H.lo j h j0 j1 h0 h1
  rw [lv_set]
  exact ⟨fun hh => by rw [if_neg (by omega)]; exact this.1 hh, fun hh => by rw [if_neg (by omega)]; exact this.2 hh⟩
 up j j0 j1 := by
  have h := H.up j j0 j1
  rw [lv_set]
  by_cases e : j = i
  ·subst e
   rw [if_pos ⟨rfl, rfl⟩]
   omega
  ·rw [if_neg fun hc => e hc.1]
   exact h
 sum := by
  have h := H.up i hi0 hi1
  rw [smC_set hi0 (by omega), smQ_put (by omega) (by omega)]
  have := H.sum
  omega
 nn v := by
  have := H.nn v
  rw [qlen_put]
  split <;> omega
 ent v m v0 v1 m0 m1 := by
  rw [qlen_put] at m1
  rw [qel_put m0]
  by_cases hq : v = e.i ∧ m = qlen Q e.i
  ·rw [if_pos hq, hx]
   exact ⟨⟨hi0, hi1⟩, hk⟩
  ·rw [if_neg hq]
   refine H.ent v m v0 v1 m0 ?_
   by_cases hv : v = e.i
   ·rw [if_pos hv] at m1
    rw [hv] at m1 ⊢
    have : m ≠ qlen Q e.i := fun hm => hq ⟨hv, hm⟩
    omega
   ·rwa [if_neg hv] at m1
theorem set_le (hlt : lvX o i c < e.i) (j h : Int) : lvX o j h ≤ lvX (setO o i c e m) j h := by
 rw [lv_set]
 by_cases hq : j = i ∧ h = c
 ·rw [if_pos hq, hq.1, hq.2]; omega
 ·rw [if_neg hq]; exact Int.le_refl _
theorem own_mono {o' : X} (H : ownQ b cs t k c o i) (h : ∀ j, lvX o j c ≤ lvX o' j c) : ownQ b cs t k c o' i := fun j a d f g => Int.le_trans (H j a d f g) (h j)
theorem own_next (H : ownQ b cs t k c o i) (h : knwX k i = true → ownB b cs t i c ≤ lvX o i c) : ownQ b cs t k c o (i + 1) := fun j a d f g => by
 by_cases e : j = i
 ·rw [e] at g ⊢; exact h g
 ·exact H j a d (by omega) g
theorem celQ_put (H : celQu cs c o Q) (hx : x.i = i) (h0 : 0 ≤ qlen Q e.i) (hp : 0 < e.i) : celQu cs c (setO o i c e m) (putQ Q e x) := fun j a d f => by
 rw [lv_set] at f ⊢
 by_cases hj : j = i
 ·rw [if_pos ⟨hj, rfl⟩] at f ⊢
  rw [hj, ← hx]
  exact qu_new (Int.le_refl _) h0
 ·rw [if_neg fun hc => hj hc.1] at f ⊢
  exact qu_mono (Int.le_refl _) (H j a d f)
theorem clo_mono {o' : X} (H : cloD b cs t k c o j d) (hj : lvX o' j c = lvX o j c) (h : ∀ j, lvX o j c ≤ lvX o' j c) : cloD b cs t k c o' j d := fun e e0 e1 hn => by
 rw [hj]
 exact Int.le_trans (H e e0 e1 hn) (h _)
theorem clo_next (H : cloD b cs t k c o j d) (h : ngbB b k (b.at j) d = true → pssB (fadX t (cs.getD (b.idx (stpP (b.at j) d)).toNat 0)) c (if d = 4 then 5 else 0) (lvX o j c) ≤ lvX o (b.idx (stpP (b.at j) d)) c) : cloD b cs t k c o j (d + 1) := fun e e0 e1 hn => by
 by_cases he : e = d
 ·rw [he] at hn ⊢; exact h hn
 ·exact H e e0 (by omega) hn
theorem lev_first (H : ComQ b cs t k c o Q) (hv : b.vol = cs.length) (ht : (chkT t).2 = 0) (c0 : 0 ≤ c) (c1 : c < 4) (h : celQu cs c o Q) : levQ b cs t k c 15 o Q := fun j a d f => ⟨fun _ => h j a d f, fun hh => by have := (H.rng hv ht c0 c1 a d).2; omega⟩
theorem que_first (h : levQ b cs t k c lev o Q) : queQ b cs t k c lev 0 o Q := fun j a d f => ⟨fun hh => (h j a d f).1 (by omega), fun hh => (h j a d f).2 hh, fun hh => .inr (by have := (h j a d f).1 (by omega); rwa [hh] at this)⟩
theorem que_skip (h : queQ b cs t k c lev n o Q) (hne : ¬ lvX o (qel Q lev n) c = lev) : queQ b cs t k c lev (n + 1) o Q := fun j a d f => by
 obtain ⟨h1, h2, h3⟩ := h j a d f
 refine ⟨h1, h2, fun hh => (h3 hh).imp id ?_⟩
 rintro ⟨m, m0, m1, m2⟩
 refine ⟨m, ?_, m1, m2⟩
 by_cases e : m = n
 ·rw [e] at m2
  rw [m2] at hne
  exact (hne hh).elim
 ·omega
theorem nea_first (h : queQ b cs t k c lev n o Q) : neaQ b cs t k c lev n (qel Q lev n) o Q := fun j a d f => by
 obtain ⟨h1, h2, h3⟩ := h j a d f
 refine ⟨h1, h2, fun hh => (h3 hh).imp id ?_⟩
 rintro ⟨m, m0, m1, m2⟩
 by_cases e : m = n
 ·rw [e] at m2
  exact .inl m2.symm
 ·exact .inr ⟨m, by omega, m1, m2⟩
theorem nea_put (h : neaQ b cs t k c lev n i o Q) (hx : x.i = j) (n0 : 0 ≤ n) (n1 : n < qlen Q lev) (hlt : lvX o j c < e.i) (hle : e.i ≤ lev) (h0 : 0 ≤ qlen Q e.i) : neaQ b cs t k c lev n i (setO o j c e m) (putQ Q e x) := fun q a d f => by
 have hm := set_le (m := m) hlt
 by_cases hq : q = j
 ·have hv : lvX (setO o j c e m) q c = e.i := by rw [lv_set, if_pos ⟨hq, rfl⟩]
  rw [hv, hq, ← hx]
  refine ⟨fun _ => qu_new (Int.le_refl _) h0, fun hh => by omega, fun hh => .inr (.inr ?_)⟩
  rw [← hh] at n1 ⊢
  exact qu_new (by omega) (by omega)
 ·have hv : lvX (setO o j c e m) q c = lvX o q c := by rw [lv_set, if_neg fun hc => hq hc.1]
  rw [hv] at f ⊢
  obtain ⟨h1, h2, h3⟩ := h q a d f
  refine ⟨fun hh => qu_mono (Int.le_refl _) (h1 hh), fun hh => clo_mono (h2 hh) hv fun p => hm p c, fun hh => ?_⟩
  rcases h3 hh with h3 | h3 | h3
  ·exact .inl (clo_mono h3 hv fun p => hm p c)
  ·exact .inr (.inl h3)
  ·exact .inr (.inr (qu_mono (by omega) h3))
theorem nea_last (h : neaQ b cs t k c lev n i o Q) (hc : cloD b cs t k c o i 6) : queQ b cs t k c lev (n + 1) o Q := fun j a d f => by
 obtain ⟨h1, h2, h3⟩ := h j a d f
 refine ⟨h1, h2, fun hh => ?_⟩
 rcases h3 hh with h3 | h3 | h3
 ·exact .inl h3
 ·rw [h3]; exact .inl hc
 ·exact .inr h3
theorem que_last (h : queQ b cs t k c lev n o Q) (hn : ¬ n < qlen Q lev) : levQ b cs t k c (lev - 1) o Q := fun j a d f => by
 obtain ⟨h1, h2, h3⟩ := h j a d f
 refine ⟨fun hh => h1 (by omega), fun hh => ?_⟩
 by_cases e : lvX o j c = lev
 ·rcases h3 e with h3 | ⟨m, m0, m1, _⟩
  ·exact h3
  ·omega
 ·exact h2 (by omega)
theorem pss_ful (H : ComQ b cs t k c o Q) (hv : b.vol = cs.length) (ht : (chkT t).2 = 0) (c0 : 0 ≤ c) (c1 : c < 4) (i0 : 0 ≤ i) (i1 : i < cs.length) (hk : knwX k i = true) (d0 : 0 ≤ d) (d1 : d < 6) (hn : ngbB b k (b.at i) d = true) :
 pssB (fadX t (cs.getD (b.idx (stpP (b.at i) d)).toNat 0)) c (if d = 4 then 5 else 0) (lvX o i c) ≤ fulF b cs t k (b.idx (stpP (b.at i) d)) c := by
 obtain ⟨hr, _, hkn⟩ := ngb_ix hv hn
 obtain ⟨g1, g2⟩ := ngb_back hv i0 i1 hk d0 d1 hn
 obtain ⟨p0, p1⟩ := opD_rng d0 d1
 have h1 := pss_le_stp (L := fulF b cs t k) (t := t) (cs := cs) (c := c) p0 p1 hkn g1
 rw [g2] at h1
 have h2 : stpF b cs t k (fulF b cs t k) (b.idx (stpP (b.at i) d)) c = fulF b cs t k (b.idx (stpP (b.at i) d)) c := lfp_fix (stp_ok (k := k) hv ht) _ c hr.1 hr.2 c0 c1
 rw [h2] at h1
 refine Int.le_trans (pss_mono (fad_rng ht).1 (H.up i i0 i1).2) ?_
 rw [pss_dir (e := opD d)]
 ·exact h1
 ·rw [opD_54 d0 d1]
  by_cases h : d = 4
  ·rw [if_pos h]; exact iff_of_true rfl h
  ·rw [if_neg h]; exact iff_of_false (by decide) h
theorem lev_done (H : ComQ b cs t k c o Q) (hv : b.vol = cs.length) (ht : (chkT t).2 = 0) (c0 : 0 ≤ c) (c1 : c < 4) (ho : ownQ b cs t k c o cs.length) (h : levQ b cs t k c 0 o Q) (j : Int) (j0 : 0 ≤ j) (j1 : j < cs.length) : lvX o j c = fulF b cs t k j c := by
 have hS := stp_ok (k := k) hv ht
 have hF := lfp_lv hS
 refine Int.le_antisymm (H.up j j0 j1).2 ?_
 have hG := lfp_least hS (G := fun i q => if q = c then lvX o i q else fulF b cs t k i q) (fun i q a d e f => by
  by_cases hq : q = c
  ·simp only [if_pos hq]
   rw [hq]
   exact H.rng hv ht c0 c1 a d
  ·simp only [if_neg hq]
   exact hF i q a d e f) (fun i q a d e f => by
  by_cases hq : q = c
  ·simp only [if_pos hq]
   subst hq
   refine stp_least (H.up i a d).1 (fun hk => ho i a d d hk) fun g hg hk hn => ?_
   obtain ⟨hr, _, hkn⟩ := ngb_ix hv hn
   simp only [if_true]
   have hup := (H.up i a d).1
   by_cases hp : 0 < lvX o (b.idx (stpP (b.at i) g)) q
   ·have hc := (h _ hr.1 hr.2 hp).2 hp
    obtain ⟨g1, g2⟩ := ngb_back hv a d hk (by omega) (by omega) hn
    obtain ⟨p0, p1⟩ := opD_rng (e := g) (by omega) (by omega)
    have := hc (opD g) p0 p1 g1
    rw [g2] at this
    rwa [pss_dir (e := (g : Int))] at this
    have h45 := opD_45 (e := g) (by omega) (by omega)
    by_cases hh : opD g = 4
    ·rw [if_pos hh]; exact iff_of_true rfl (h45.1 hh)
    ·rw [if_neg hh]; exact iff_of_false (by decide) fun hc => hh (h45.2 hc)
   ·have := pss_self (c := q) (d := g) (x := lvX o (b.idx (stpP (b.at i) g)) q) (fad_rng (t := t) (n := cs.getD i.toNat 0) ht).1
    omega
  ·simp only [if_neg hq]
   have h1 := stp_ch (k := k) (L := fun i q => if q = c then lvX o i q else fulF b cs t k i q) (M := fulF b cs t k) (i := i) hv ht e f fun p _ _ => if_neg hq
   rw [h1]
   exact Int.le_of_eq (lfp_fix hS i q a d e f))
 have := hG j c j0 j1 c0 c1
 simp only [if_true] at this
 exact this
theorem com_first (hl : o.i = cs.length) (hv : b.vol = cs.length) (ht : (chkT t).2 = 0) (c0 : 0 ≤ c) (c1 : c < 4) (h : ∀ j q : Int, 0 ≤ j → j < cs.length → 0 ≤ q → q < 4 → (q < c → lvX o j q = fulF b cs t k j q) ∧ (c ≤ q → lvX o j q = 0)) :
 ComQ b cs t k c o (xR (rwRep [])) ∧ ownQ b cs t k c o 0 ∧ celQu cs c o (xR (rwRep [])) := by
 have z : ∀ j : Int, 0 ≤ j → j < cs.length → lvX o j c = 0 := fun j a d => (h j c a d c0 c1).2 (Int.le_refl _)
 have q0 : ∀ v m : Int, ((rwRep []) v m).i = 0 := fun v m => rfl
 refine ⟨{ len := hl, lo := fun j q a d e f => ⟨(h j q a d e f).1, fun hh => (h j q a d e f).2 (by omega)⟩, up := fun j a d => ?_, sum := ?_, nn := fun v => Int.le_refl _, ent := fun v m v0 v1 m0 m1 => ?_ }, fun j a d f => by omega, fun j a d f => ?_⟩
 ·rw [z j a d]
  exact ⟨Int.le_refl _, (lfp_lv (stp_ok (k := k) hv ht) j c a d c0 c1).1⟩
 ·have := (smC_rng (o := o) (c := c) (n := cs.length) fun j a d => by rw [z j a d]; decide).1
  exact this
 ·have m1 : m < 0 := m1
  omega
 ·rw [z j a d] at f
  omega
theorem put_own {q : Int} (hq : c = q) (H : ComQ b cs t k c o Q) (hv : b.vol = cs.length) (ht : (chkT t).2 = 0) (c0 : 0 ≤ c) (c1 : c < 4) (i0 : 0 ≤ i) (i1 : i < cs.length) (hk : knwX k i = true) (ho : ownQ b cs t k c o i) (hQ : celQu cs c o Q) (hx : x.i = i) (he : e.i = ownB b cs t i c) (hlt : lvX o i c < e.i) :
 ComQ b cs t k c (setO o i q e o.i) (putQ Q e x) ∧ ownQ b cs t k c (setO o i q e o.i) (i + 1) ∧ celQu cs c (setO o i q e o.i) (putQ Q e x) := by
 subst hq
 have hr := own_rng (b := b) (cs := cs) (i := i) ht c0 c1
 have hup := (H.up i i0 i1).1
 have h2 : stpF b cs t k (fulF b cs t k) i c = fulF b cs t k i c := lfp_fix (stp_ok (k := k) hv ht) _ c i0 i1 c0 c1
 refine ⟨H.put i0 i1 hx hk hlt (by omega) ?_, own_next (own_mono ho fun j => set_le hlt j c) fun _ => ?_, celQ_put hQ hx (H.nn _) (by omega)⟩
 ·rw [he, ← h2]
  exact own_le_stp hk
 ·rw [lv_set, if_pos ⟨rfl, rfl⟩, he]
  exact Int.le_refl _
theorem put_nea {q J : Int} (hq : c = q) (H : ComQ b cs t k c o Q) (hv : b.vol = cs.length) (ht : (chkT t).2 = 0) (c0 : 0 ≤ c) (c1 : c < 4) (l0 : 0 < lev) (l1 : lev ≤ 15) (n0 : 0 ≤ n) (n1 : n < qlen Q lev) (i0 : 0 ≤ i) (i1 : i < cs.length) (hk : knwX k i = true) (hi : lvX o i c = lev) (d0 : 0 ≤ d) (d1 : d < 6)
 (ho : ownQ b cs t k c o cs.length) (hN : neaQ b cs t k c lev n i o Q) (hc : cloD b cs t k c o i d) (hn : ngbB b k (b.at i) d = true) (hJ : J = b.idx (stpP (b.at i) d)) (hx : x.i = J) (he : e.i = pssB (fadX t (cs.getD J.toNat 0)) c (if d = 4 then 5 else 0) lev) (hlt : lvX o J c < e.i) :
 ComQ b cs t k c (setO o J q e o.i) (putQ Q e x) ∧ n < qlen (putQ Q e x) lev ∧ lvX (setO o J q e o.i) i c = lev ∧ ownQ b cs t k c (setO o J q e o.i) cs.length ∧ neaQ b cs t k c lev n i (setO o J q e o.i) (putQ Q e x) ∧ cloD b cs t k c (setO o J q e o.i) i (d + 1) ∧ leftQ cs c lev (setO o J q e o.i) (putQ Q e x) ≤ leftQ cs c lev o Q := by
 subst hq
 obtain ⟨hr, _, hkn⟩ := ngb_ix hv hn
 have hf := pss_ful H hv ht c0 c1 i0 i1 hk d0 d1 hn
 rw [← hJ] at hr hkn hf
 rw [hi, ← he] at hf
 have hle : e.i ≤ lev := by rw [he]; exact pss_self (fad_rng ht).1
 have hup := (H.up J hr.1 hr.2).1
 have hne : ¬ i = J := fun hc => by rw [← hc, hi] at hlt; omega
 have hv' : lvX (setO o J c e o.i) i c = lvX o i c := by rw [lv_set, if_neg fun hc => hne hc.1]
 refine ⟨H.put hr.1 hr.2 hx hkn hlt (by omega) hf, ?_, hv'.trans hi, own_mono ho fun j => set_le hlt j c, nea_put hN hx n0 n1 hlt hle (H.nn _), clo_next (clo_mono hc hv' fun p => set_le hlt p c) fun _ => ?_, ?_⟩
 ·rw [qlen_put]; split <;> omega
 ·rw [hv', ← hJ, hi, ← he, lv_set, if_pos (show J = J ∧ c = c from ⟨rfl, rfl⟩)]
  exact Int.le_refl _
 ·unfold leftQ
  rw [smC_set hr.1 (by omega), qlen_put]
  split <;> omega
end
end Vc
end Go.Proofs.YtelbilnnmmbmdaaDoor
