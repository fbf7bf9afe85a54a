/- Layer 7, plain: turned grids. -/
import Derived.Test.YtaacclebncplbaaGreatDoorC07Za
import Derived.Test.YtaacclebncplbaaGreatDoorC04U
namespace Go.Proofs.YtaacclebncplbaaGreatDoor
namespace Vc
open Go Go.RowKit
set_option linter.unusedVariables false
section
variable {a b c d e f s t : Int}
theorem tl_cm7 (hs : inT s) (ht : inT t) {k : Nat} (hk : k < 3) (n : neB a b c d e f) : tlB (cmB s t) k a b c d e f = tlB s k (tlB t 0 a b c d e f) (tlB t 1 a b c d e f) (tlB t 2 a b c d e f) (thB t 0 a b c d e f) (thB t 1 a b c d e f) (thB t 2 a b c d e f) := by
 have hi := cm_inT hs ht
 have h := cm_ax (inT_nat hs) (inT_nat ht) hk
 have hm := tAx_lt (inT_nat hs) hk
 have hp := pick_fun (fun m => tlB t m a b c d e f) hm
 have hq := pick_fun (fun m => thB t m a b c d e f) hm
 rw [cm_in hs ht] at hi ⊢
 rw [show tlB s k (tlB t 0 a b c d e f) (tlB t 1 a b c d e f) (tlB t 2 a b c d e f) (thB t 0 a b c d e f) (thB t 1 a b c d e f) (thB t 2 a b c d e f) = if tNg s.toNat k then 0 - pick (thB t 0 a b c d e f) (thB t 1 a b c d e f) (thB t 2 a b c d e f) (tAx s.toNat k) else pick (tlB t 0 a b c d e f) (tlB t 1 a b c d e f) (tlB t 2 a b c d e f) (tAx s.toNat k) from (if_pos hs).trans (if_pos (ne_t ht n)), hp, hq]
 unfold tlB thB
 rw [if_pos hi, if_pos n, if_pos ht, if_pos n, if_pos ht, if_pos n, Int.toNat_natCast, h.1, h.2]
 cases tNg s.toNat k <;> cases tNg t.toNat (tAx s.toNat k) <;> simp <;> omega
theorem th_cm7 (hs : inT s) (ht : inT t) {k : Nat} (hk : k < 3) (n : neB a b c d e f) : thB (cmB s t) k a b c d e f = thB s k (tlB t 0 a b c d e f) (tlB t 1 a b c d e f) (tlB t 2 a b c d e f) (thB t 0 a b c d e f) (thB t 1 a b c d e f) (thB t 2 a b c d e f) := by
 have hi := cm_inT hs ht
 have h := cm_ax (inT_nat hs) (inT_nat ht) hk
 have hm := tAx_lt (inT_nat hs) hk
 have hp := pick_fun (fun m => tlB t m a b c d e f) hm
 have hq := pick_fun (fun m => thB t m a b c d e f) hm
 rw [cm_in hs ht] at hi ⊢
 rw [show thB s k (tlB t 0 a b c d e f) (tlB t 1 a b c d e f) (tlB t 2 a b c d e f) (thB t 0 a b c d e f) (thB t 1 a b c d e f) (thB t 2 a b c d e f) = if tNg s.toNat k then 0 - pick (tlB t 0 a b c d e f) (tlB t 1 a b c d e f) (tlB t 2 a b c d e f) (tAx s.toNat k) else pick (thB t 0 a b c d e f) (thB t 1 a b c d e f) (thB t 2 a b c d e f) (tAx s.toNat k) from (if_pos hs).trans (if_pos (ne_t ht n)), hp, hq]
 unfold tlB thB
 rw [if_pos hi, if_pos n, if_pos ht, if_pos n, if_pos ht, if_pos n, Int.toNat_natCast, h.1, h.2]
 cases tNg s.toNat k <;> cases tNg t.toNat (tAx s.toNat k) <;> simp <;> omega
end
section
variable {b : Bx} {cs : List Int} {p q : Pt} {s t : Int}
theorem tcP_cm (hs : inT s) (ht : inT t) : tcP (cmB s t) p = tcP s (tcP t p) := by
 unfold tcP
 rw [tc_cm hs ht (by decide), tc_cm hs ht (by decide), tc_cm hs ht (by decide)]
theorem tcP_0 : tcP 0 p = p := by
 have h : ∀ k, k < 3 → tNg 0 k = false ∧ tAx 0 k = k := by decide
 have h0 : inT 0 := by unfold inT; omega
 have hk : ∀ k, k < 3 → ∀ x y z : Int, tcB 0 k x y z = pick x y z k := fun k hk x y z => by
  unfold tcB
  rw [if_pos h0]
  show (if tNg 0 k = true then 0 - pick x y z (tAx 0 k) - 1 else pick x y z (tAx 0 k)) = _
  rw [(h k hk).1, (h k hk).2]
  rfl
 unfold tcP
 rw [hk 0 (by decide), hk 1 (by decide), hk 2 (by decide)]
 rfl
theorem ivT_tab : ((List.range 48).all fun a => decide (inT (ivB (a : Nat)))) = true := by decide +kernel
theorem iv_inT (h : inT s) : inT (ivB s) := by
 have h1 := inT_nat h
 have := List.all_eq_true.1 ivT_tab s.toNat (List.mem_range.2 h1)
 have e : ((s.toNat : Nat) : Int) = s := by unfold inT at h; omega
 rw [e] at this
 exact of_decide_eq_true this
theorem tcP_iv (h : inT s) : tcP (ivB s) (tcP s p) = p := by
 rw [← tcP_cm (iv_inT h) h, (unit_ok h).2.2.2, tcP_0]
theorem tcP_vi (h : inT s) : tcP s (tcP (ivB s) p) = p := by
 rw [← tcP_cm h (iv_inT h), (unit_ok h).2.2.1, tcP_0]
theorem tur_z (h : inT s) : turB s bx0 = bx0 := by
 have n : ¬ neB 0 0 0 0 0 0 := by unfold neB; omega
 show (⟨tlB s 0 0 0 0 0 0 0, tlB s 1 0 0 0 0 0 0, tlB s 2 0 0 0 0 0 0, thB s 0 0 0 0 0 0 0, thB s 1 0 0 0 0 0 0, thB s 2 0 0 0 0 0 0⟩ : Bx) = _
 rw [tl_none h 0 n, tl_none h 1 n, tl_none h 2 n, th_none h 0 n, th_none h 1 n, th_none h 2 n]
 rfl
theorem turN_get (h : inT s) (hv : b.vol = cs.length) : ∀ (n : Nat), n ≤ cs.length → ∀ i, i < n → (turN s b cs n).getD ((turB s b).idx (tcP s (b.at i))).toNat 0 = cs.getD i 0
 | 0, _, i, hi => absurd hi (Nat.not_lt_zero i)
 | n + 1, hn, i, hi => by
  show ((turN s b cs n).set ((turB s b).idx (tcP s (b.at n))).toNat (cs.getD n 0)).getD _ 0 = _
  have hh : ∀ j : Nat, j < cs.length → (turB s b).has (tcP s (b.at j)) = true := fun j hj => tur_has.2 (at_has (by omega) (by omega))
  have hn' := idx_ok (hh n (by omega))
  have hi' := idx_ok (hh i (by omega))
  rw [tur_vol] at hn' hi'
  rw [getD_set]
  by_cases e : i = n
  ·subst e
   rw [if_pos ⟨rfl, by rw [turN_len]; omega⟩]
  ·rw [if_neg]
   ·exact turN_get h hv n (by omega) i (by omega)
   ·rintro ⟨h1, _⟩
    have h2 := idx_inj (hh n (by omega)) (hh i (by omega)) (by omega)
    have h3 : b.at n = b.at i := by
     have := congrArg (tcP (ivB s)) h2
     rwa [tcP_iv h, tcP_iv h] at this
    have := at_inj (b := b) (i := n) (j := i) (by omega) (by omega) (by omega) (by omega) h3
    omega
theorem tur_get (h : inT s) (hv : b.vol = cs.length) : getL (turB s b) (turL s b cs) (tcP s p) = getL b cs p := by
 by_cases hp : b.has p = true
 ·have hi := idx_ok hp
  have hat : b.at ((b.idx p).toNat : Nat) = p := by rw [Int.toNat_of_nonneg hi.1]; exact at_idx hp
  rw [getL_has hp, getL_has (tur_has.2 hp)]
  have := turN_get h hv cs.length (Nat.le_refl _) (b.idx p).toNat (by omega)
  rw [hat] at this
  exact this
 ·rw [getL_no hp, getL_no fun x => hp (tur_has.1 x)]
theorem tur_get' (h : inT s) (hv : b.vol = cs.length) : getL (turB s b) (turL s b cs) p = getL b cs (tcP (ivB s) p) := by
 rw [← tur_get h hv, tcP_vi h]
theorem turN_all (hm : cs.all matB = true) : ∀ (n : Nat), (turN s b cs n).all matB = true
 | 0 => hm
 | n + 1 => by
  refine List.all_eq_true.2 fun x hx => ?_
  rcases List.mem_or_eq_of_mem_set hx with h1 | h1
  ·exact List.all_eq_true.1 (turN_all hm n) x h1
  ·rw [h1, List.getD_eq_getElem?_getD]
   cases hk : cs[n]? with
   | none => rfl
   | some x => exact List.all_eq_true.1 hm x (List.mem_of_getElem? hk)
theorem val_tur (h : inT s) (hg : validG ⟨b, cs⟩ = true) : validG ⟨turB s b, turL s b cs⟩ = true := by
 have h0 := hg
 have hi := bx_in (val_in hg)
 have t0 := tur_in (s := s) hi 0
 have t1 := tur_in (s := s) hi 1
 have t2 := tur_in (s := s) hi 2
 unfold validG at hg ⊢
 simp only [Bool.and_eq_true, Bool.or_eq_true, decide_eq_true_eq] at hg ⊢
 refine ⟨⟨⟨⟨?_, ?_⟩, by rw [tur_vol]; exact hg.1.1.2⟩, by rw [tur_vol]; show b.vol = ((turN s b cs cs.length).length : Int); rw [turN_len]; exact hg.1.2⟩, turN_all hg.2 _⟩
 ·exact (in20_iff (a := (turB s b).a) (b := (turB s b).b) (c := (turB s b).c) (d := (turB s b).d) (e := (turB s b).e) (f := (turB s b).f)).2 ⟨t0.1, t1.1, t2.1, t0.2, t1.2, t2.2⟩
 ·rcases hg.1.1.1.2 with h1 | h1
  ·have e : b = bx0 := isZ_eq h1
   exact .inl (by rw [e, tur_z h]; rfl)
  ·exact .inr (by rw [tur_vol]; exact h1)
theorem tur_box (hs : inT s) (ht : inT t) (hg : validG ⟨b, cs⟩ = true) : turB s (turB t b) = turB (cmB s t) b := by
 rcases val_box hg with h | h
 ·rw [h, tur_z ht, tur_z hs, tur_z (cm_inT hs ht)]
 ·exact bx_ext (tl_cm7 hs ht (by decide) h).symm (tl_cm7 hs ht (by decide) h).symm (tl_cm7 hs ht (by decide) h).symm (th_cm7 hs ht (by decide) h).symm (th_cm7 hs ht (by decide) h).symm (th_cm7 hs ht (by decide) h).symm
theorem tur_box0 (hg : validG ⟨b, cs⟩ = true) : turB 0 b = b := by
 have h0 : inT 0 := by unfold inT; omega
 have hk : ∀ k, k < 3 → tNg 0 k = false ∧ tAx 0 k = k := by decide
 rcases val_box hg with h | h
 ·rw [h, tur_z h0]
 ·have hl : ∀ k, k < 3 → tlB 0 k b.a b.b b.c b.d b.e b.f = pick b.a b.b b.c k ∧ thB 0 k b.a b.b b.c b.d b.e b.f = pick b.d b.e b.f k := fun k h3 => by
   unfold tlB thB
   rw [if_pos h0, if_pos h, if_pos h0, if_pos h]
   show (if tNg 0 k = true then _ else pick b.a b.b b.c (tAx 0 k)) = _ ∧ (if tNg 0 k = true then _ else pick b.d b.e b.f (tAx 0 k)) = _
   rw [(hk k h3).1, (hk k h3).2]
   exact ⟨rfl, rfl⟩
  exact bx_ext (hl 0 (by decide)).1 (hl 1 (by decide)).1 (hl 2 (by decide)).1 (hl 0 (by decide)).2 (hl 1 (by decide)).2 (hl 2 (by decide)).2
theorem tur_tur (hs : inT s) (ht : inT t) (hg : validG ⟨b, cs⟩ = true) : turL s (turB t b) (turL t b cs) = turL (cmB s t) b cs := by
 have h1 := val_tur ht hg
 have h2 := val_tur hs h1
 have h3 := val_tur (cm_inT hs ht) hg
 have hx : (turB s (turB t b)).vol = (turL (cmB s t) b cs).length := by rw [tur_box hs ht hg]; exact val_len h3
 refine getL_ext (b := turB s (turB t b)) (val_len h2) hx fun p hp => ?_
 rw [tur_get' hs (val_len h1), tur_get' ht (val_len hg), tur_box hs ht hg, tur_get' (cm_inT hs ht) (val_len hg)]
 congr 1
 have e : p = tcP (cmB s t) (tcP (ivB t) (tcP (ivB s) p)) := by rw [tcP_cm hs ht, tcP_vi ht, tcP_vi hs]
 conv => rhs; rw [e]
 rw [tcP_iv (cm_inT hs ht)]
theorem tur_0 (hg : validG ⟨b, cs⟩ = true) : turL 0 b cs = cs := by
 have h0 : inT 0 := by unfold inT; omega
 have h1 := val_len (val_tur h0 hg)
 have h1 : (turB 0 b).vol = (turL 0 b cs).length := h1
 rw [tur_box0 hg] at h1
 refine getL_ext (b := b) h1 (val_len hg) fun p hp => ?_
 have := tur_get (p := p) h0 (val_len hg)
 rw [tur_box0 hg, tcP_0] at this
 exact this
end
end Vc
end Go.Proofs.YtaacclebncplbaaGreatDoor
