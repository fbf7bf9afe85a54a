/- Layer 20, plain: targets, places and sources. -/
import Derived.Test.YtaacclebncplbaaGreatDoorC20C
import Derived.Test.YtaacclebncplbaaGreatDoorC07Y
import Derived.Test.YtaacclebncplbaaGreatDoorC07Za
namespace Go.Proofs.YtaacclebncplbaaGreatDoor
namespace Vc
open Go Go.RowKit
set_option linter.unusedVariables false
def shP (b : Bx) (v : Pt) : Bx := ⟨b.a + v.1, b.b + v.2.1, b.c + v.2.2, b.d + v.1, b.e + v.2.1, b.f + v.2.2⟩
def adP (p v : Pt) : Pt := (p.1 + v.1, p.2.1 + v.2.1, p.2.2 + v.2.2)
def sbP (p v : Pt) : Pt := (p.1 - v.1, p.2.1 - v.2.1, p.2.2 - v.2.2)
def tnP (k : Int) (v : Pt) : Pt := (tnB k 0 v.1 v.2.1 v.2.2, tnB k 1 v.1 v.2.1 v.2.2, tnB k 2 v.1 v.2.1 v.2.2)
def mnP (b : Bx) : Pt := (b.a, b.b, b.c)
def neX (b : Bx) : Prop := neB b.a b.b b.c b.d b.e b.f
instance (b : Bx) : Decidable (neX b) := by unfold neX; exact inferInstance
section
variable {b : Bx} {p q v a : Pt} {k s t : Int}
theorem pick_ad2 (x y z u v w : Int) (m : Nat) : pick (x + u) (y + v) (z + w) m = pick x y z m + pick u v w m := by unfold pick; split <;> rfl
theorem tcB_ad (h : inT s) (m : Nat) (x y z u v w : Int) : tcB s m (x + u) (y + v) (z + w) = tcB s m x y z + tnB s m u v w := by
 unfold tcB tnB
 rw [if_pos h, if_pos h, if_pos h, pick_ad2]
 split <;> omega
theorem tcP_ad (h : inT s) : tcP s (adP p v) = adP (tcP s p) (tnP s v) := by
 unfold tcP adP tnP
 simp only [tcB_ad h]
theorem vol_nn0 {a b c d e f : Int} (h : ¬ neB a b c d e f) : volB a b c d e f = 0 := if_neg h
theorem ne_sh : neX (shP b v) ↔ neX b := by
 unfold neX neB shP
 simp only
 omega
theorem tl_ad (h : inT s) (n : neX b) (m : Nat) : tlB s m (b.a + v.1) (b.b + v.2.1) (b.c + v.2.2) (b.d + v.1) (b.e + v.2.1) (b.f + v.2.2) = tlB s m b.a b.b b.c b.d b.e b.f + tnB s m v.1 v.2.1 v.2.2 := by
 have n' : neB (b.a + v.1) (b.b + v.2.1) (b.c + v.2.2) (b.d + v.1) (b.e + v.2.1) (b.f + v.2.2) := ne_sh.2 n
 have n0 : neB b.a b.b b.c b.d b.e b.f := n
 unfold tlB tnB
 rw [if_pos h, if_pos h, if_pos h, if_pos n0, if_pos n', pick_ad2, pick_ad2]
 split <;> omega
theorem th_ad (h : inT s) (n : neX b) (m : Nat) : thB s m (b.a + v.1) (b.b + v.2.1) (b.c + v.2.2) (b.d + v.1) (b.e + v.2.1) (b.f + v.2.2) = thB s m b.a b.b b.c b.d b.e b.f + tnB s m v.1 v.2.1 v.2.2 := by
 have n' : neB (b.a + v.1) (b.b + v.2.1) (b.c + v.2.2) (b.d + v.1) (b.e + v.2.1) (b.f + v.2.2) := ne_sh.2 n
 have n0 : neB b.a b.b b.c b.d b.e b.f := n
 unfold thB tnB
 rw [if_pos h, if_pos h, if_pos h, if_pos n0, if_pos n', pick_ad2, pick_ad2]
 split <;> omega
theorem tur_ad (h : inT s) (n : neX b) : turB s (shP b v) = shP (turB s b) (tnP s v) :=
 bx_ext (tl_ad h n 0) (tl_ad h n 1) (tl_ad h n 2) (th_ad h n 0) (th_ad h n 1) (th_ad h n 2)
theorem tur_bxN (hs : inT s) (ht : inT t) (n : neX b) : turB s (turB t b) = turB (cmB s t) b :=
 bx_ext (tl_cm7 hs ht (by decide) n).symm (tl_cm7 hs ht (by decide) n).symm (tl_cm7 hs ht (by decide) n).symm (th_cm7 hs ht (by decide) n).symm (th_cm7 hs ht (by decide) n).symm (th_cm7 hs ht (by decide) n).symm
theorem tur_bx0 (n : neX b) : turB 0 b = b := by
 have h0 : inT 0 := by unfold inT; omega
 have hk : ∀ k, k < 3 → tNg 0 k = false ∧ tAx 0 k = k := by decide
 have hl : ∀ k, k < 3 → tlB 0 k b.a b.b b.c b.d b.e b.f = pick b.a b.b b.c k ∧ thB 0 k b.a b.b b.c b.d b.e b.f = pick b.d b.e b.f k := fun k h3 => by
  have n0 : neB b.a b.b b.c b.d b.e b.f := n
  unfold tlB thB
  rw [if_pos h0, if_pos n0, if_pos h0, if_pos n0]
  show (if tNg 0 k = true then _ else pick b.a b.b b.c (tAx 0 k)) = _ ∧ (if tNg 0 k = true then _ else pick b.d b.e b.f (tAx 0 k)) = _
  rw [(hk k h3).1, (hk k h3).2]
  exact ⟨rfl, rfl⟩
 exact bx_ext (hl 0 (by decide)).1 (hl 1 (by decide)).1 (hl 2 (by decide)).1 (hl 0 (by decide)).2 (hl 1 (by decide)).2 (hl 2 (by decide)).2
theorem tur_ivN (h : inT k) (n : neX b) : turB (ivB k) (turB k b) = b := by
 rw [tur_bxN (iv_inT h) h n, (unit_ok h).2.2.2, tur_bx0 n]
theorem ne_tur (h : inT k) (n : neX b) : neX (turB k b) := ne_t h n
theorem ne_has (h : b.has p = true) : neX b := ne_of_has h
theorem sh_has : (shP b v).has p = true ↔ b.has (sbP p v) = true := by
 rw [has_def, has_def]
 unfold shP sbP
 simp only
 omega
theorem sh_vol : (shP b v).vol = b.vol := by
 by_cases n : neX b
 ·rw [vol_of n, vol_of (ne_sh.2 n)]
  unfold shP
  simp only
  congr 1
  ·congr 1 <;> omega
  ·omega
 ·show volB _ _ _ _ _ _ = volB _ _ _ _ _ _
  rw [vol_nn0 n, vol_nn0 fun x => n (ne_sh.1 x)]
theorem ad_sb : adP (sbP p v) v = p := Prod.ext (by show p.1 - v.1 + v.1 = p.1; omega) (Prod.ext (by show p.2.1 - v.2.1 + v.2.1 = p.2.1; omega) (by show p.2.2 - v.2.2 + v.2.2 = p.2.2; omega))
theorem sb_ad : sbP (adP p v) v = p := Prod.ext (by show p.1 + v.1 - v.1 = p.1; omega) (Prod.ext (by show p.2.1 + v.2.1 - v.2.1 = p.2.1; omega) (by show p.2.2 + v.2.2 - v.2.2 = p.2.2; omega))
theorem tg_sh (h : inT k) (n : neX b) : tg2 b k a = shP (turB k b) (sbP a (mnP (turB k b))) := by
 unfold tg2
 rw [if_pos ⟨h, n⟩]
 unfold shP sbP mnP
 exact bx_ext (by simp only; omega) (by simp only; omega) (by simp only; omega) (by simp only; omega) (by simp only; omega) (by simp only; omega)
theorem tg_no (h : ¬ (inT k ∧ neX b)) : tg2 b k a = bx0 := if_neg h
theorem pl_ad (h : inT k) (hp : b.has p = true) : pl2 b k a p = (adP (tcP k p) (sbP a (mnP (turB k b))), true) := by
 unfold pl2
 rw [if_pos ⟨h, hp⟩]
 refine Prod.ext (Prod.ext ?_ (Prod.ext ?_ ?_)) rfl
 ·show a.1 + ((tcP k p).1 - (turB k b).a) = (tcP k p).1 + (a.1 - (turB k b).a); omega
 ·show a.2.1 + ((tcP k p).2.1 - (turB k b).b) = (tcP k p).2.1 + (a.2.1 - (turB k b).b); omega
 ·show a.2.2 + ((tcP k p).2.2 - (turB k b).c) = (tcP k p).2.2 + (a.2.2 - (turB k b).c); omega
theorem pl_no (h : ¬ (inT k ∧ b.has p = true)) : pl2 b k a p = (pt0, false) := if_neg h
theorem sr_ad (h : inT k) (n : neX b) : sr2 b k a q = if (turB k b).has (sbP q (sbP a (mnP (turB k b)))) = true then (tcP (ivB k) (sbP q (sbP a (mnP (turB k b)))), true) else (pt0, false) := by
 unfold sr2
 rw [if_pos h, tg_sh h n]
 have hv : sbP a (mnP (turB k b)) = sbP a (mnP (turB k b)) := rfl
 generalize sbP a (mnP (turB k b)) = v at *
 by_cases hq : (turB k b).has (sbP q v) = true
 ·rw [if_pos hq, show ((b.a, b.b, b.c) : Pt) = mnP b from rfl, pl_ad (iv_inT h) (sh_has.2 hq), tur_ad (iv_inT h) (ne_tur h n), tur_ivN h n]
  have e : tcP (ivB k) q = adP (tcP (ivB k) (sbP q v)) (tnP (ivB k) v) := by rw [← tcP_ad (iv_inT h), ad_sb]
  rw [e]
  refine Prod.ext (Prod.ext ?_ (Prod.ext ?_ ?_)) rfl
  ·show (tcP (ivB k) (sbP q v)).1 + (tnP (ivB k) v).1 + (b.a - (b.a + (tnP (ivB k) v).1)) = (tcP (ivB k) (sbP q v)).1; omega
  ·show (tcP (ivB k) (sbP q v)).2.1 + (tnP (ivB k) v).2.1 + (b.b - (b.b + (tnP (ivB k) v).2.1)) = (tcP (ivB k) (sbP q v)).2.1; omega
  ·show (tcP (ivB k) (sbP q v)).2.2 + (tnP (ivB k) v).2.2 + (b.c - (b.c + (tnP (ivB k) v).2.2)) = (tcP (ivB k) (sbP q v)).2.2; omega
 ·rw [if_neg hq, pl_no fun x => hq (sh_has.1 x.2)]
theorem has_z : ¬ bx0.has p = true := fun h => by
 have := has_def.1 h
 unfold bx0 at this
 simp only at this
 omega
theorem sr_no (h : ¬ (inT k ∧ neX b)) : sr2 b k a q = (pt0, false) := by
 unfold sr2
 split
 ·rename_i hk
  rw [tg_no h, pl_no fun x => has_z x.2]
 ·rfl
theorem sr_pl (h : inT k) (hp : b.has p = true) : sr2 b k a (pl2 b k a p).1 = (p, true) := by
 rw [sr_ad h (ne_has hp), pl_ad h hp]
 show (if (turB k b).has (sbP (adP (tcP k p) _) _) = true then _ else _) = _
 rw [sb_ad, if_pos (tur_has.2 hp), tcP_iv h]
theorem pl_sr (e : sr2 b k a q = (p, true)) : b.has p = true ∧ inT k ∧ pl2 b k a p = (q, true) := by
 by_cases h : inT k ∧ neX b
 ·rw [sr_ad h.1 h.2] at e
  split at e
  ·rename_i hq
   have e1 : tcP (ivB k) (sbP q (sbP a (mnP (turB k b)))) = p := congrArg Prod.fst e
   have e2 : tcP k p = sbP q (sbP a (mnP (turB k b))) := by rw [← e1, tcP_vi h.1]
   have hp : b.has p = true := tur_has.1 (e2 ▸ hq)
   exact ⟨hp, h.1, by rw [pl_ad h.1 hp, e2, ad_sb]⟩
  ·cases congrArg Prod.snd e
 ·rw [sr_no h] at e
  cases congrArg Prod.snd e
theorem sr_false (e : (sr2 b k a q).2 = false) : sr2 b k a q = (pt0, false) := by
 by_cases h : inT k ∧ neX b
 ·rw [sr_ad h.1 h.2] at e ⊢
  split at e
  ·cases e
  ·rename_i hq
   rw [if_neg hq]
 ·exact sr_no h
theorem tg_has (h : inT k) (hp : b.has p = true) : (tg2 b k a).has (pl2 b k a p).1 = true := by
 rw [tg_sh h (ne_has hp), pl_ad h hp, sh_has, sb_ad]
 exact tur_has.2 hp
theorem tg_vol (h : inT k) : (tg2 b k a).vol = b.vol := by
 by_cases n : neX b
 ·rw [tg_sh h n, sh_vol, tur_vol]
 ·rw [tg_no fun x => n x.2]
  show volB _ _ _ _ _ _ = volB _ _ _ _ _ _
  rw [vol_nn0 n, vol_nn0 (by unfold neB; unfold bx0; simp only; omega)]
theorem tg_in (h : inT k) (n : neX b) : (tg2 b k a).a = a.1 ∧ (tg2 b k a).b = a.2.1 ∧ (tg2 b k a).c = a.2.2 ∧ (tg2 b k a).d = a.1 + ((turB k b).d - (turB k b).a) ∧ (tg2 b k a).e = a.2.1 + ((turB k b).e - (turB k b).b) ∧ (tg2 b k a).f = a.2.2 + ((turB k b).f - (turB k b).c) := by
 unfold tg2
 rw [if_pos ⟨h, n⟩]
 exact ⟨rfl, rfl, rfl, rfl, rfl, rfl⟩
theorem pl_iff {o : Pt × Bool} {p : Pt} {c : Bool} (h : o = (p, c)) : (c = true) ↔ (xB o.2).b = true := by
 rw [h]
 rfl
theorem nB_mono {m n : Int} (h : nB m b) (hm : m ≤ n) : nB n b := by
 unfold nB nI at h ⊢
 omega
theorem nP_mono {m n : Int} (h : nP m a) (hm : m ≤ n) : nP n a := by
 unfold nP nI at h ⊢
 omega
theorem tl_nB {m : Int} (h : nB m b) (j : Nat) : (-m ≤ tlB k j b.a b.b b.c b.d b.e b.f ∧ tlB k j b.a b.b b.c b.d b.e b.f ≤ m) ∧ (-m ≤ thB k j b.a b.b b.c b.d b.e b.f ∧ thB k j b.a b.b b.c b.d b.e b.f ≤ m) := by
 unfold nB nI at h
 exact ⟨tl_rng (lo := -m) (hi := m) k j (by omega) (by omega) h.1.1 h.1.2.1 h.1.2.2 h.2.1 h.2.2.1 h.2.2.2, th_rng (lo := -m) (hi := m) k j (by omega) (by omega) h.1.1 h.1.2.1 h.1.2.2 h.2.1 h.2.2.1 h.2.2.2⟩
theorem tur_nB {m : Int} (h : nB m b) : nB m (turB k b) := ⟨⟨(tl_nB h 0).1, (tl_nB h 1).1, (tl_nB h 2).1⟩, (tl_nB h 0).2, (tl_nB h 1).2, (tl_nB h 2).2⟩
theorem tg_rng {m : Int} (h : nB m b) (ha : nP m a) : nB (3 * m) (tg2 b k a) := by
 have ht := tur_nB (k := k) h
 unfold tg2
 split
 ·unfold nB nI at ht ⊢
  unfold nP nI at ha
  simp only
  omega
 ·unfold nB nI at h ⊢
  unfold bx0
  simp only
  omega
theorem pl_rng {m : Int} (h : nB m b) (ha : nP m a) : nP (3 * m) (pl2 b k a p).1 := by
 have ht := tur_nB (k := k) h
 unfold pl2
 split
 ·rename_i hh
  have hp := has_def.1 (tur_has (s := k).2 hh.2)
  unfold nB nI at ht
  unfold nP nI at ha ⊢
  simp only
  omega
 ·unfold nB nI at h
  unfold nP nI pt0
  simp only
  omega
theorem sr_rng {m : Int} (h : nB m b) : nP m (sr2 b k a q).1 := by
 cases e : (sr2 b k a q).2 with
 | false =>
  rw [sr_false e]
  unfold nB nI at h
  unfold nP nI pt0
  simp only
  omega
 | true =>
  have hp := has_def.1 (pl_sr (p := (sr2 b k a q).1) (Prod.ext rfl e)).1
  unfold nB nI at h
  unfold nP nI
  omega
theorem pl_inT (h : (pl2 b k a p).2 = true) : inT k ∧ b.has p = true := by
 unfold pl2 at h
 split at h
 ·assumption
 ·cases h
theorem vol_10 (h : nB 10000 b) : b.vol ≤ 8000000000000 := by
 by_cases n : neX b
 ·rw [vol_of n]
  unfold neX neB at n
  unfold nB nI at h
  have h1 : (b.d - b.a) * (b.e - b.b) ≤ 20000 * 20000 := Int.mul_le_mul (by omega) (by omega) (by omega) (by omega)
  have h2 : (b.d - b.a) * (b.e - b.b) * (b.f - b.c) ≤ 20000 * 20000 * 20000 := Int.mul_le_mul h1 (by omega) (by omega) (by omega)
  omega
 ·have : b.vol = 0 := vol_nn0 n
  omega
theorem sr_found {i : Int} (h0 : 0 ≤ i) (h1 : i < b.vol) (h : pl2 b k a (b.at i) = (q, true)) : sr2 b k a q = (b.at i, true) := by
 have := sr_pl (a := a) (pl_inT (by rw [h])).1 (at_has h0 h1)
 rwa [h] at this
theorem sr_none (h : ∀ j : Nat, (j : Int) < b.vol → pl2 b k a (b.at j) ≠ (q, true)) : sr2 b k a q = (pt0, false) := by
 cases e : (sr2 b k a q).2 with
 | false => exact sr_false e
 | true =>
  obtain ⟨h1, h2, h3⟩ := pl_sr (p := (sr2 b k a q).1) (Prod.ext rfl e)
  have hi := idx_ok h1
  refine absurd ?_ (h (b.idx (sr2 b k a q).1).toNat (by omega))
  rw [Int.toNat_of_nonneg hi.1, at_idx h1]
  exact h3
theorem tg_sr (h : inT k) (hq : (tg2 b k a).has q = true) : ∃ p, sr2 b k a q = (p, true) := by
 by_cases n : neX b
 ·rw [tg_sh h n, sh_has] at hq
  exact ⟨_, by rw [sr_ad h n, if_pos hq]⟩
 ·rw [tg_no fun x => n x.2] at hq
  exact absurd hq has_z
end
end Vc
end Go.Proofs.YtaacclebncplbaaGreatDoor
namespace Go.Proofs.YtaacclebncplbaaGreatDoor
namespace Vc
open Go Go.RowKit
set_option linter.unusedVariables false
section
variable {b sb b' : Bx} {cs scs l l' : List Int} {a p q : Pt} {k n : Int}
theorem fmN_step {α : Type} {f : Nat → Option α} (h0 : 0 ≤ k) : (List.range (k + 1).toNat).filterMap f = (List.range k.toNat).filterMap f ++ (f k.toNat).toList := by
 rw [toS7 h0, List.range_succ, List.filterMap_append]
 congr 1
theorem fmN_len {α : Type} {f : Nat → Option α} (h0 : 0 ≤ k) : (((List.range k.toNat).filterMap f).length : Int) ≤ k := by
 have := List.length_filterMap_le f (List.range k.toNat)
 rw [List.length_range] at this
 omega
theorem chC_eq {f : Pt → Option Int} {i : Nat} {c : Int} {o : Bool} (hf : f (b.at i) = if o = true then some c else none) : chC b cs f i = if o = true ∧ ¬ c = cs.getD i 0 then some (b.at i, cs.getD i 0, c) else none := by
 unfold chC
 rw [hf]
 cases o with
 | false => rfl
 | true =>
  by_cases h : c = cs.getD i 0
  ·rw [if_pos rfl, if_neg fun x => x.2 h]
   exact if_pos h
  ·rw [if_pos rfl, if_pos ⟨rfl, h⟩]
   exact if_neg h
theorem cpF_eq : cpF sb scs b' k a q = if (sr2 b' k a q).2 = true then some (getL sb scs (sr2 b' k a q).1) else none := by
 unfold cpF
 rcases sr2 b' k a q with ⟨p, c⟩
 cases c <;> rfl
theorem chN_step {l : X} {f : Pt → Option Int} {c : Int} {o : Bool} (h0 : 0 ≤ k) (h1 : k < l.i) (hf : f (b.at k) = if o = true then some c else none) :
 (List.range (k + 1).toNat).filterMap (chC b (lstX deI l) f) = (List.range k.toNat).filterMap (chC b (lstX deI l) f) ++ (if o = true ∧ ¬ c = (l.r k 0).i then [(b.at k, (l.r k 0).i, c)] else []) := by
 have e : ((k.toNat : Nat) : Int) = k := Int.toNat_of_nonneg h0
 rw [fmN_step h0, chC_eq (o := o) (c := c) (by rw [e]; exact hf), e, lxI_at h0 h1]
 congr 1
 split <;> rfl
theorem cmI_rng {m n : Int} : -1 ≤ cmI m n ∧ cmI m n ≤ 1 := by
 unfold cmI
 split
 ·omega
 ·split <;> omega
theorem cmI_0 {m n : Int} : cmI m n = 0 ↔ m = n := by
 unfold cmI
 split
 ·omega
 ·split <;> omega
theorem cmL_rng : ∀ {l l' : List Int}, -1 ≤ cmL l l' ∧ cmL l l' ≤ 1
 | [], [] => by unfold cmL; omega
 | [], _ :: _ => by unfold cmL; omega
 | _ :: _, [] => by unfold cmL; omega
 | a :: r, b :: s => by
  unfold cmL
  split
  ·exact cmL_rng
  ·exact cmI_rng
theorem cm_at : ∀ {n : Nat} {l l' : List Int}, l.take n = l'.take n → n ≤ l.length → n ≤ l'.length → cmL l l' = cmL (l.drop n) (l'.drop n)
 | 0, _, _, _, _, _ => rfl
 | n + 1, a :: r, b :: s, h, h1, h2 => by
  simp only [List.take_succ_cons, List.cons.injEq] at h
  rw [List.drop_succ_cons, List.drop_succ_cons, ← cm_at h.2 (by simpa using h1) (by simpa using h2), h.1]
  show (if cmI b b = 0 then cmL r s else _) = _
  rw [if_pos (cmI_0.2 rfl)]
 | n + 1, [], _, _, h1, _ => by simp at h1
 | n + 1, _ :: _, [], _, _, h2 => by simp at h2
theorem drop_get {n : Nat} (h : n < l.length) : l.drop n = l.getD n 0 :: l.drop (n + 1) := by
 rw [List.drop_eq_getElem_cons h, List.getD_eq_getElem?_getD, List.getElem?_eq_getElem h]
 rfl
theorem cm_next {n : Nat} (h : l.take n = l'.take n) (h1 : n < l.length) (h2 : n < l'.length) (hn : ¬ cmI (l.getD n 0) (l'.getD n 0) = 0) : cmL l l' = cmI (l.getD n 0) (l'.getD n 0) := by
 rw [cm_at h (by omega) (by omega), drop_get h1, drop_get h2]
 exact if_neg hn
theorem dropZ {n : Nat} (h : l.length ≤ n) : l.drop n = [] := List.drop_eq_nil_of_le h
theorem cm_gt {n : Nat} (h : l.take n = l'.take n) (h1 : n < l.length) (h2 : l'.length = n) : cmL l l' = 1 := by
 rw [cm_at h (by omega) (by omega), drop_get h1, dropZ (l := l') (by omega)]
 rfl
theorem cm_lt {n : Nat} (h : l.take n = l'.take n) (h1 : l.length = n) (h2 : n < l'.length) : cmL l l' = -1 := by
 rw [cm_at h (by omega) (by omega), drop_get h2, dropZ (l := l) (by omega)]
 rfl
theorem cm_eq {n : Nat} (h : l.take n = l'.take n) (h1 : l.length = n) (h2 : l'.length = n) : cmL l l' = 0 := by
 rw [cm_at h (by omega) (by omega), dropZ (l := l) (by omega), dropZ (l := l') (by omega)]
 rfl
theorem orI_l {m n : Int} (h : ¬ m = 0) : orI m n = m := if_neg h
theorem orI_r {m n : Int} (h : m = 0) : orI m n = n := if_pos h
theorem orI_rng {m n : Int} (h : -1 ≤ m ∧ m ≤ 1) (h' : -1 ≤ n ∧ n ≤ 1) : -1 ≤ orI m n ∧ orI m n ≤ 1 := by
 unfold orI
 split <;> assumption
theorem odB_rng : -1 ≤ odB b cs b' scs ∧ odB b cs b' scs ≤ 1 := orI_rng cmI_rng (orI_rng cmI_rng (orI_rng cmI_rng cmL_rng))
theorem lst_rowI : lstX deI (rowG enI l) = l := lstX_rowG (enc := enI) (dec := deI) (fun _ => rfl) _
theorem shf_len {x : Pt} (h : cs.length = scs.length) : shfB b cs x = shfB b scs x := by
 unfold shfB
 rw [h]
theorem turL_len : (turL k b cs).length = cs.length := turN_len _
theorem pt_eq : shfB (turB k b) (turL k b cs) ((-1) * (turB k b).a, (-1) * (turB k b).b, (-1) * (turB k b).c) = ptB k b cs := by
 unfold ptB
 rw [shf_len (scs := cs) turL_len]
 congr 1
 refine Prod.ext ?_ (Prod.ext ?_ ?_)
 ·show (-1) * (turB k b).a = 0 - (turB k b).a
  omega
 ·show (-1) * (turB k b).b = 0 - (turB k b).b
  omega
 ·show (-1) * (turB k b).c = 0 - (turB k b).c
  omega
theorem pt_rng (h : nB 1048575 b) : nB 2097151 (ptB k b cs) := by
 have ht := tur_nB (k := k) h
 unfold ptB shfB
 split
 ·exact nB_mono ht (by decide)
 ·unfold nB nI at ht ⊢
  simp only
  omega
theorem in20_nB (h : b.in20 = true) : nB 1048575 b := by
 have := bx_in h
 unfold nB nI
 omega
theorem tur_val (hg : validG ⟨b, cs⟩ = true) : validG ⟨turB k b, turL k b cs⟩ = true := by
 by_cases h : inT k
 ·exact val_tur h hg
 ·have e : turB k b = b := tur_out h
  have h0 := hg
  unfold validG at h0 ⊢
  simp only [Bool.and_eq_true, Bool.or_eq_true, decide_eq_true_eq] at h0 ⊢
  rw [e]
  exact ⟨⟨⟨⟨h0.1.1.1.1, h0.1.1.1.2⟩, h0.1.1.2⟩, by rw [turL_len]; exact h0.1.2⟩, turN_all h0.2 _⟩
theorem pt_ln (b : Bx) (cs : List Int) (j : Nat) : validG ⟨b, cs⟩ = true → nB 2097151 (ptB j b cs) := fun h => pt_rng (in20_nB (val_in h))
end
end Vc
end Go.Proofs.YtaacclebncplbaaGreatDoor
namespace Go.Proofs.YtaacclebncplbaaGreatDoor
namespace Vc
open Go Go.RowKit
set_option linter.unusedVariables false
section
variable {b sb b' : Bx} {cs scs : List Int} {a p q : Pt} {k n : Int} {f : Pt → Option Int}
theorem wr64 {x : Int} (h0 : -9000000000000000000 ≤ x) (h1 : x ≤ 9000000000000000000) : IntKind.wrap .i64 x = x := wrap_fits ⟨by show -9223372036854775808 ≤ x; omega, by show x ≤ 9223372036854775807; omega⟩
theorem vol_wr {a b c d e f : Int} (h : nB 1000 (bxI a b c d e f))
 (hw : IntKind.wrap Go.IntKind.i64 ((IntKind.wrap Go.IntKind.i64 ((bif (((decide (d ≤ a)) || (decide (e ≤ b))) || (decide (f ≤ c))) then 0 else (IntKind.wrap Go.IntKind.i64 (d - a))) * (bif (((decide (d ≤ a)) || (decide (e ≤ b))) || (decide (f ≤ c))) then 0 else (IntKind.wrap Go.IntKind.i64 (e - b))))) * (bif (((decide (d ≤ a)) || (decide (e ≤ b))) || (decide (f ≤ c))) then 0 else (IntKind.wrap Go.IntKind.i64 (f - c)))) ≤ 520) :
 (bxI a b c d e f).vol ≤ 520 := by
 have h' : ((-1000 ≤ a ∧ a ≤ 1000) ∧ (-1000 ≤ b ∧ b ≤ 1000) ∧ (-1000 ≤ c ∧ c ≤ 1000)) ∧ (-1000 ≤ d ∧ d ≤ 1000) ∧ (-1000 ≤ e ∧ e ≤ 1000) ∧ (-1000 ≤ f ∧ f ≤ 1000) := h
 by_cases n : neX (bxI a b c d e f)
 ·have n' : a < d ∧ b < e ∧ c < f := n
  have hc : (((decide (d ≤ a)) || (decide (e ≤ b))) || (decide (f ≤ c))) = false := by
   rw [decide_eq_false (show ¬ d ≤ a by omega), decide_eq_false (show ¬ e ≤ b by omega), decide_eq_false (show ¬ f ≤ c by omega)]
   rfl
  have m1 : (d - a) * (e - b) ≤ 2000 * 2000 := Int.mul_le_mul (by omega) (by omega) (by omega) (by omega)
  have m0 : 0 ≤ (d - a) * (e - b) := Int.mul_nonneg (by omega) (by omega)
  have m2 : (d - a) * (e - b) * (f - c) ≤ 2000 * 2000 * 2000 := Int.mul_le_mul m1 (by omega) (by omega) (by omega)
  have m3 : 0 ≤ (d - a) * (e - b) * (f - c) := Int.mul_nonneg m0 (by omega)
  rw [hc] at hw
  simp only [cond_false] at hw
  rw [wr64 (x := d - a) (by omega) (by omega), wr64 (x := e - b) (by omega) (by omega), wr64 (x := f - c) (by omega) (by omega), wr64 (x := (d - a) * (e - b)) (by omega) (by omega), wr64 (by omega) (by omega)] at hw
  rw [vol_of n]
  exact hw
 ·have e : (bxI a b c d e f).vol = 0 := vol_nn0 n
  omega
theorem chC_mem {c : Ch} (h : c ∈ chL b cs f) : ∃ i : Nat, i < cs.length ∧ c.1 = b.at i ∧ c.2.1 = cs.getD i 0 ∧ f (b.at i) = some c.2.2 ∧ c.2.2 ≠ c.2.1 := by
 obtain ⟨i, hi, e⟩ := List.mem_filterMap.1 h
 rw [List.mem_range] at hi
 unfold chC at e
 split at e
 ·rename_i m hm
  split at e
  ·cases e
  ·rename_i hne
   cases e
   exact ⟨i, hi, rfl, rfl, hm, hne⟩
 ·cases e
theorem wr_chN (hv : b.vol = cs.length) : ∀ {n : Nat}, n ≤ cs.length → ∀ j : Nat, j < cs.length →
 (wrL b cs ((List.range n).filterMap (chC b cs f))).getD j 0 = if j < n then (f (b.at j)).getD (cs.getD j 0) else cs.getD j 0
 | 0, _, j, hj => by
  rw [if_neg (by omega)]
  rfl
 | n + 1, hn, j, hj => by
  have ih := wr_chN hv (n := n) (by omega) j hj
  rw [List.range_succ, List.filterMap_append]
  have hat : b.idx (b.at n) = n := idx_at (by omega) (by omega)
  have hno : ∀ (h : chC b cs f n = none) , (wrL b cs ((List.range n).filterMap (chC b cs f) ++ [n].filterMap (chC b cs f))).getD j 0 = if j < n + 1 then (f (b.at j)).getD (cs.getD j 0) else cs.getD j 0 := fun h => by
   have e : [n].filterMap (chC b cs f) = [] := by simp only [List.filterMap_cons, List.filterMap_nil, h]
   rw [e, List.append_nil, ih]
   by_cases ej : n = j
   ·subst ej
    rw [if_neg (by omega), if_pos (by omega)]
    unfold chC at h
    split at h
    ·rename_i m hm
     split at h
     ·rename_i he
      rw [hm]
      exact he.symm
     ·cases h
    ·rename_i hm
     rw [hm]
     rfl
   ·by_cases hl : j < n
    ·rw [if_pos hl, if_pos (by omega)]
    ·rw [if_neg hl, if_neg (by omega)]
  cases hc : chC b cs f n with
  | none => exact hno hc
  | some c =>
   have e : [n].filterMap (chC b cs f) = [c] := by simp only [List.filterMap_cons, List.filterMap_nil, hc]
   rw [e, wr_snoc]
   unfold chC at hc
   split at hc
   ·rename_i m hm
    split at hc
    ·cases hc
    ·cases hc
     unfold setL
     rw [if_pos (by show 0 ≤ b.idx (b.at n); omega), getD_set, wr_len]
     show (if (b.idx (b.at n)).toNat = j ∧ _ then _ else _) = _
     rw [hat]
     by_cases ej : n = j
     ·subst ej
      rw [if_pos ⟨by omega, by omega⟩, if_pos (by omega), hm]
      rfl
     ·rw [if_neg (by omega), ih]
      by_cases hl : j < n
      ·rw [if_pos hl, if_pos (by omega)]
      ·rw [if_neg hl, if_neg (by omega)]
   ·cases hc
theorem wr_ch (hv : b.vol = cs.length) {j : Nat} (hj : j < cs.length) : (wrL b cs (chL b cs f)).getD j 0 = (f (b.at j)).getD (cs.getD j 0) := by
 refine (wr_chN hv (Nat.le_refl _) j hj).trans ?_
 rw [if_pos hj]
theorem cp_chg (hb : validG ⟨b, cs⟩ = true) (hm : scs.all matB = true) {c : Ch} (h : c ∈ chL b cs (cpF sb scs b' k a)) : chgB c := by
 obtain ⟨i, hi, e1, e2, e3, e4⟩ := chC_mem h
 have hv : b.vol = cs.length := val_len hb
 have hr := bx_in (val_in hb)
 have := has_def.1 (at_has (b := b) (i := i) (by omega) (by omega))
 have hmat : matB c.2.2 = true := by
  rw [cpF_eq] at e3
  split at e3
  ·rw [← Option.some.inj e3]
   exact mat_getL hm
  ·cases e3
 rw [← e1] at this
 exact ⟨by omega, by omega, by omega, hmat⟩
theorem wr_val : ∀ {w : List Ch} {cs : List Int}, validG ⟨b, cs⟩ = true → (∀ c ∈ w, matB c.2.2 = true) → validG ⟨b, wrL b cs w⟩ = true
 | [], _, h, _ => h
 | c :: w, cs, h, hw => wr_val (w := w) (cs := setL b cs c.1 c.2.2) (val_setM h (hw c (List.mem_cons_self ..))) fun d hd => hw d (List.mem_cons_of_mem _ hd)
theorem cp_get (hb : validG ⟨b, cs⟩ = true) {i : Int} (h0 : 0 ≤ i) (h1 : i < cs.length) :
 getL b (wrL b cs (chL b cs (cpF sb scs b' k a))) (b.at i) = if (sr2 b' k a (b.at i)).2 = true then getL sb scs (sr2 b' k a (b.at i)).1 else getL b cs (b.at i) := by
 have hv : b.vol = cs.length := val_len hb
 obtain ⟨j, rfl⟩ := Int.eq_ofNat_of_zero_le h0
 have hj : j < cs.length := by omega
 rw [getL_at (n := 0) rfl (by omega), wr_ch hv hj, cpF_eq, getL_at (cs := cs) (n := 0) rfl (by omega)]
 split <;> rfl
theorem lst_rowC {w : List Ch} : lstX deC (rowG enC w) = w := lstX_rowG (enc := enC) (dec := deC) (fun _ => rfl) _
end
end Vc
end Go.Proofs.YtaacclebncplbaaGreatDoor
