/- Layer 7, plain: written, pasted, cropped, turned. -/
import Derived.Test.YtaacclebncplbaaGreatDoorC07M
import Derived.Test.YtaacclebncplbaaGreatDoorC04M
import Derived.Test.YtaacclebncplbaaGreatDoorC07N
namespace Go.Proofs.YtaacclebncplbaaGreatDoor
namespace Vc
open Go Go.RowKit
set_option linter.unusedVariables false
theorem wr_rsh (ds : Ds) (h : rshX [RGw, RCh] ds) (hp : Px 917 ds) : rshX shWr ds := by
 have h0 := rshX_flat h
 match ds, h0, h, hp with
 | [a, b, c, d, e, f, l, w], h0, h, hp =>
  obtain ⟨k1, k2⟩ := hp
  obtain ⟨q1, q2, q3⟩ := val_rsh (rest := [RCh]) _ h k1
  obtain ⟨⟨w0, w1, w2⟩, w3⟩ := q3
  refine ⟨q1, q2, ⟨w0, w1, fun i hi => ?_⟩, w3⟩
  obtain ⟨_, _, _, o3, _⟩ := w2 i hi
  obtain ⟨c0, c1, c2, c3⟩ := k2 i (by omega)
  have c4 := matB_iff.1 c3
  exact ⟨c0, c1, c2, o3, ⟨c4.1, Int.le_of_lt_add_one c4.2⟩, trivial⟩
theorem tur_rsh (ds : Ds) (h : rshX [.one K64, RGw] ds) (hp : Px 947 ds) : rshX shTur ds := by
 have h0 := rshX_flat h
 match ds, h0, h, hp with
 | [s, a, b, c, d, e, f, l], h0, h, hp => exact ⟨h.1, val_rsh (rest := []) _ h.2 hp⟩
theorem toS7 {i : Int} (h : 0 ≤ i) : (i + 1).toNat = i.toNat + 1 := by omega
section
variable {b b' : Bx} {l l' o : X} {p : Pt} {s n : Int} {cs cs' : List Int}
theorem set_len {m : Int} : (setL b cs p m).length = cs.length := by unfold setL; split <;> simp
theorem wr_len : ∀ {w : List Ch} {cs : List Int}, (wrL b cs w).length = cs.length
 | [], _ => rfl
 | c :: w, cs => by
  show (wrL b (setL b cs c.1 c.2.2) w).length = _
  rw [wr_len, set_len]
theorem wr_snoc {w : List Ch} {c : Ch} : wrL b cs (w ++ [c]) = setL b (wrL b cs w) c.1 c.2.2 := by
 unfold wrL
 rw [List.foldl_append]
 rfl
theorem pas_len : (pasL b cs b' cs').length = cs.length := by unfold pasL; rw [List.length_map, List.length_range]
theorem pas_getD {j : Nat} (hj : j < cs.length) : (pasL b cs b' cs').getD j 0 = if b'.has (b.at j) = true then getL b' cs' (b.at j) else cs.getD j 0 := by
 unfold pasL
 rw [List.getD_eq_getElem?_getD, List.getElem?_map, List.getElem?_range hj]
 show (if b'.has (b.at j) = true then cs'.getD (b'.idx (b.at j)).toNat 0 else cs.getD j 0) = _
 split
 ·rename_i h
  unfold getL
  rw [if_pos (idx_ok h).1]
 ·rfl
theorem pas_of (ho : o.i = l.i) (h : ∀ j : Nat, (j : Int) < l.i → (o.r j 0).i = if b'.has (b.at j) = true then getL b' cs' (b.at j) else (l.r j 0).i) : lstX deI o = pasL b (lstX deI l) b' cs' := by
 refine ext_getD 0 (by rw [pas_len, lstX_len, lstX_len, ho]) fun j hj => ?_
 rw [lstX_len] at hj
 have hj' : (j : Int) < l.i := by omega
 rw [pas_getD (by rw [lstX_len]; omega), lxI_getD (by omega), h j hj', lxI_getD hj']
theorem new_er : 0 ≤ newE b n ∧ newE b n ≤ 2 := by
 unfold newE
 split
 ·decide
 ·split <;> decide
theorem new_in : (newB b n).in20 = true := by
 unfold newB
 split
 ·rename_i h
  have h := h.1
  unfold newE at h
  cases hb : b.in20 with
  | true => rfl
  | false => rw [hb] at h; simp at h
 ·rfl
theorem new_len (h : newE b n = 0) : ((newL b n).length : Int) = b.vol ∧ b.vol ≤ 2097152 := by
 rw [new_l1 h, List.length_replicate]
 have hv := vol_nn (b := b)
 refine ⟨by omega, ?_⟩
 unfold newE at h
 split at h
 ·cases h
 ·split at h
  ·cases h
  ·omega
theorem new_val (h : newE b n = 0) : validG ⟨newB b n, newL b n⟩ = true := by
 obtain ⟨h1, h2⟩ := new_len h
 have hm : matB n = true := by
  unfold newE at h
  cases hm : matB n with
  | true => rfl
  | false => rw [hm] at h; simp at h
 have hall : (newL b n).all matB = true := by
  rw [new_l1 h]
  exact List.all_eq_true.2 fun x hx => by rw [List.eq_of_mem_replicate hx]; exact hm
 have hin := new_in (b := b) (n := n)
 unfold validG
 show ((newB b n).in20 && ((newB b n).isZ || decide ((newB b n).vol ≠ 0)) && decide ((newB b n).vol ≤ 2097152) && decide ((newB b n).vol = ((newL b n).length : Int)) && (newL b n).all matB) = true
 rw [hin, hall]
 by_cases hv : b.vol = 0
 ·rw [new_b0 (.inr hv)]
  have e : ((newL b n).length : Int) = 0 := by omega
  rw [e]
  rfl
 ·rw [new_b1 h hv, decide_eq_true hv, decide_eq_true h2, decide_eq_true h1.symm]
  simp
theorem tur_out (h : ¬ inT s) : turB s b = b := by
 unfold turB
 rw [tl_out h, tl_out h, tl_out h, th_out h, th_out h, th_out h]
 rfl
theorem tcP_out (h : ¬ inT s) : tcP s p = p := by
 unfold tcP tcB
 rw [if_neg h, if_neg h, if_neg h]
 rfl
theorem tur_has : (turB s b).has (tcP s p) = true ↔ b.has p = true := by
 by_cases h : inT s
 ·rw [has_iff, has_iff]
  exact in_t h p.1 p.2.1 p.2.2
 ·rw [tur_out h, tcP_out h]
theorem tur_vol : (turB s b).vol = b.vol := by
 by_cases h : inT s
 ·exact vol_t (a := b.a) (b := b.b) (c := b.c) (d := b.d) (e := b.e) (f := b.f) h
 ·rw [tur_out h]
theorem turN_len : ∀ (i : Nat), (turN s b cs i).length = cs.length
 | 0 => rfl
 | i + 1 => by
  show (List.set _ _ _).length = _
  rw [List.length_set, turN_len i]
end
theorem tur_in {a b c d e f s : Int} (h : (-1048575 ≤ a ∧ a ≤ 1048575) ∧ (-1048575 ≤ b ∧ b ≤ 1048575) ∧ (-1048575 ≤ c ∧ c ≤ 1048575) ∧ (-1048575 ≤ d ∧ d ≤ 1048575) ∧ (-1048575 ≤ e ∧ e ≤ 1048575) ∧ (-1048575 ≤ f ∧ f ≤ 1048575)) (k : Nat) :
 (-1048575 ≤ tlB s k a b c d e f ∧ tlB s k a b c d e f ≤ 1048575) ∧ (-1048575 ≤ thB s k a b c d e f ∧ thB s k a b c d e f ≤ 1048575) :=
 ⟨tl_rng s k rfl (by decide) h.1 h.2.1 h.2.2.1 h.2.2.2.1 h.2.2.2.2.1 h.2.2.2.2.2, th_rng s k rfl (by decide) h.1 h.2.1 h.2.2.1 h.2.2.2.1 h.2.2.2.2.1 h.2.2.2.2.2⟩
theorem bx_in {b : Bx} (h : b.in20 = true) : (-1048575 ≤ b.a ∧ b.a ≤ 1048575) ∧ (-1048575 ≤ b.b ∧ b.b ≤ 1048575) ∧ (-1048575 ≤ b.c ∧ b.c ≤ 1048575) ∧ (-1048575 ≤ b.d ∧ b.d ≤ 1048575) ∧ (-1048575 ≤ b.e ∧ b.e ≤ 1048575) ∧ (-1048575 ≤ b.f ∧ b.f ≤ 1048575) := (in20_iff (a := b.a) (b := b.b) (c := b.c) (d := b.d) (e := b.e) (f := b.f)).1 h
end Vc
end Go.Proofs.YtaacclebncplbaaGreatDoor
