/- Layer 4 in plain terms: turned cells and boxes. -/
import Derived.Test.YtaacclebncplbaaGreatDoorC04K
import Derived.Test.YtaacclebncplbaaGreatDoorC04I
namespace Go.Proofs.YtaacclebncplbaaGreatDoor
namespace Vc
open Go Go.RowKit
set_option linter.unusedVariables false
theorem pick_add (x y z n : Int) (m : Nat) : pick (x + n) (y + n) (z + n) m = pick x y z m + n := by unfold pick; split <;> rfl
theorem pick_lt {a b c d e f : Int} (h : neB a b c d e f) (m : Nat) : pick a b c m < pick d e f m := by
 unfold neB at h
 unfold pick; split <;> omega
theorem tc_rng {x y z lo hi : Int} (s : Int) (k : Nat) (hl : lo = -hi - 1) (hx : lo ≤ x ∧ x ≤ hi) (hy : lo ≤ y ∧ y ≤ hi) (hz : lo ≤ z ∧ z ≤ hi) : lo ≤ tcB s k x y z ∧ tcB s k x y z ≤ hi := by
 have p := pick_rng hx hy hz (tAx s.toNat k)
 have q := pick_rng hx hy hz k
 unfold tcB; split
 ·split <;> omega
 ·exact q
theorem tn_rng {x y z lo hi : Int} (s : Int) (k : Nat) (hl : lo = -hi) (hx : lo ≤ x ∧ x ≤ hi) (hy : lo ≤ y ∧ y ≤ hi) (hz : lo ≤ z ∧ z ≤ hi) : lo ≤ tnB s k x y z ∧ tnB s k x y z ≤ hi := by
 have p := pick_rng hx hy hz (tAx s.toNat k)
 have q := pick_rng hx hy hz k
 unfold tnB; split
 ·split <;> omega
 ·exact q
theorem tc_min {s : Int} (h : inT s) (k : Nat) (x y z : Int) : min (tnB s k x y z) (tnB s k (x + 1) (y + 1) (z + 1)) = tcB s k x y z := by
 unfold tnB tcB
 rw [if_pos h, if_pos h, if_pos h, pick_add]
 split <;> omega
theorem tl_out {s : Int} (h : ¬ inT s) (k : Nat) (a b c d e f : Int) : tlB s k a b c d e f = pick a b c k := by unfold tlB; exact if_neg h
theorem th_out {s : Int} (h : ¬ inT s) (k : Nat) (a b c d e f : Int) : thB s k a b c d e f = pick d e f k := by unfold thB; exact if_neg h
theorem tl_none {s : Int} (h : inT s) (k : Nat) {a b c d e f : Int} (n : ¬ neB a b c d e f) : tlB s k a b c d e f = 0 := by unfold tlB; rw [if_pos h, if_neg n]
theorem th_none {s : Int} (h : inT s) (k : Nat) {a b c d e f : Int} (n : ¬ neB a b c d e f) : thB s k a b c d e f = 0 := by unfold thB; rw [if_pos h, if_neg n]
theorem tl_some {s : Int} (h : inT s) (k : Nat) {a b c d e f : Int} (n : neB a b c d e f) : min (tnB s k a b c) (tnB s k d e f) = tlB s k a b c d e f := by
 have := pick_lt n (tAx s.toNat k)
 unfold tlB tnB; rw [if_pos h, if_pos n, if_pos h, if_pos h]
 split <;> omega
theorem th_some {s : Int} (h : inT s) (k : Nat) {a b c d e f : Int} (n : neB a b c d e f) : max (tnB s k a b c) (tnB s k d e f) = thB s k a b c d e f := by
 have := pick_lt n (tAx s.toNat k)
 unfold thB tnB; rw [if_pos h, if_pos n, if_pos h, if_pos h]
 split <;> omega
section
variable {a b c d e f lo hi : Int}
theorem tl_rng (s : Int) (k : Nat) (hl : lo = -hi) (h0 : 0 ≤ hi) (ha : lo ≤ a ∧ a ≤ hi) (hb : lo ≤ b ∧ b ≤ hi) (hc : lo ≤ c ∧ c ≤ hi) (hd : lo ≤ d ∧ d ≤ hi) (he : lo ≤ e ∧ e ≤ hi) (hf : lo ≤ f ∧ f ≤ hi) : lo ≤ tlB s k a b c d e f ∧ tlB s k a b c d e f ≤ hi := by
 have p := pick_rng ha hb hc (tAx s.toNat k)
 have q := pick_rng hd he hf (tAx s.toNat k)
 have r := pick_rng ha hb hc k
 unfold tlB; split
 ·split
  ·split <;> omega
  ·omega
 ·exact r
theorem th_rng (s : Int) (k : Nat) (hl : lo = -hi) (h0 : 0 ≤ hi) (ha : lo ≤ a ∧ a ≤ hi) (hb : lo ≤ b ∧ b ≤ hi) (hc : lo ≤ c ∧ c ≤ hi) (hd : lo ≤ d ∧ d ≤ hi) (he : lo ≤ e ∧ e ≤ hi) (hf : lo ≤ f ∧ f ≤ hi) : lo ≤ thB s k a b c d e f ∧ thB s k a b c d e f ≤ hi := by
 have p := pick_rng ha hb hc (tAx s.toNat k)
 have q := pick_rng hd he hf (tAx s.toNat k)
 have r := pick_rng hd he hf k
 unfold thB; split
 ·split
  ·split <;> omega
  ·omega
 ·exact r
end
def ab (n : Int) : Int := max n (0 - n)
def m3 (x y z : Int) : Int := max (max x y) z
theorem dst_m3 (a b c d e f : Int) : dstB a b c d e f = m3 (ab (a - d)) (ab (b - e)) (ab (c - f)) := by
 unfold dstB m3 ab
 have e1 : 0 - (a - d) = d - a := by omega
 have e2 : 0 - (b - e) = e - b := by omega
 have e3 : 0 - (c - f) = f - c := by omega
 rw [e1, e2, e3]
theorem ab_neg (n : Int) : ab (0 - n) = ab n := by
 unfold ab
 have : 0 - (0 - n) = n := by omega
 rw [this, Int.max_comm]
theorem tn_ab {s : Int} (h : inT s) (k : Nat) (x y z x' y' z' : Int) : ab (tnB s k x y z - tnB s k x' y' z') = ab (pick x y z (tAx s.toNat k) - pick x' y' z' (tAx s.toNat k)) := by
 unfold tnB; rw [if_pos h, if_pos h]
 split
 ·have : ∀ u v : Int, 0 - u - (0 - v) = 0 - (u - v) := fun u v => by omega
  rw [this, ab_neg]
 ·rfl
theorem tc_ab {s : Int} (h : inT s) (k : Nat) (x y z x' y' z' : Int) : ab (tcB s k x y z - tcB s k x' y' z') = ab (pick x y z (tAx s.toNat k) - pick x' y' z' (tAx s.toNat k)) := by
 unfold tcB; rw [if_pos h, if_pos h]
 split
 ·have : ∀ u v : Int, 0 - u - 1 - (0 - v - 1) = 0 - (u - v) := fun u v => by omega
  rw [this, ab_neg]
 ·rfl
theorem pick_map (g : Int → Int → Int) (x y z x' y' z' : Int) (m : Nat) : g (pick x y z m) (pick x' y' z' m) = pick (g x x') (g y y') (g z z') m := by unfold pick; split <;> rfl
theorem ax_perm {s : Nat} (hs : s < 48) : (tAx s 0, tAx s 1, tAx s 2) ∈ [(0, 1, 2), (0, 2, 1), (1, 0, 2), (1, 2, 0), (2, 0, 1), (2, 1, 0)] := by
 have : ((List.range 48).all fun s => decide ((tAx s 0, tAx s 1, tAx s 2) ∈ [(0, 1, 2), (0, 2, 1), (1, 0, 2), (1, 2, 0), (2, 0, 1), (2, 1, 0)])) = true := by decide +kernel
 have := List.all_eq_true.1 this s (by simpa using hs)
 simpa using this
theorem inT_nat {s : Int} (h : inT s) : s.toNat < 48 := by unfold inT at h; omega
theorem sym3 {s : Nat} (hs : s < 48) {α : Sort _} (g : Int → Int → Int → α) (h1 : ∀ x y z, g x y z = g y x z) (h2 : ∀ x y z, g x y z = g x z y) (x y z : Int) : g (pick x y z (tAx s 0)) (pick x y z (tAx s 1)) (pick x y z (tAx s 2)) = g x y z := by
 have := ax_perm hs
 simp only [List.mem_cons, Prod.mk.injEq, List.not_mem_nil, or_false] at this
 rcases this with ⟨a, b, c⟩ | ⟨a, b, c⟩ | ⟨a, b, c⟩ | ⟨a, b, c⟩ | ⟨a, b, c⟩ | ⟨a, b, c⟩ <;> rw [a, b, c]
 ·rfl
 ·exact (h2 _ _ _).symm
 ·exact (h1 _ _ _).symm
 ·exact ((h1 _ _ _).trans (h2 _ _ _)).symm
 ·exact ((h2 _ _ _).trans (h1 _ _ _)).symm
 ·exact (((h1 _ _ _).trans (h2 _ _ _)).trans (h1 _ _ _)).symm
theorem dst_tn {s : Int} (h : inT s) (x y z x' y' z' : Int) : dstB (tnB s 0 x y z) (tnB s 1 x y z) (tnB s 2 x y z) (tnB s 0 x' y' z') (tnB s 1 x' y' z') (tnB s 2 x' y' z') = dstB x y z x' y' z' := by
 rw [dst_m3, dst_m3, tn_ab h, tn_ab h, tn_ab h, pick_map (fun u v => ab (u - v)), pick_map (fun u v => ab (u - v)), pick_map (fun u v => ab (u - v))]
 exact sym3 (inT_nat h) m3 (fun x y z => by unfold m3; rw [Int.max_comm x y]) (fun x y z => by unfold m3; rw [Int.max_assoc, Int.max_comm y z, ← Int.max_assoc]) _ _ _
theorem dst_tc {s : Int} (h : inT s) (x y z x' y' z' : Int) : dstB (tcB s 0 x y z) (tcB s 1 x y z) (tcB s 2 x y z) (tcB s 0 x' y' z') (tcB s 1 x' y' z') (tcB s 2 x' y' z') = dstB x y z x' y' z' := by
 rw [dst_m3, dst_m3, tc_ab h, tc_ab h, tc_ab h, pick_map (fun u v => ab (u - v)), pick_map (fun u v => ab (u - v)), pick_map (fun u v => ab (u - v))]
 exact sym3 (inT_nat h) m3 (fun x y z => by unfold m3; rw [Int.max_comm x y]) (fun x y z => by unfold m3; rw [Int.max_assoc, Int.max_comm y z, ← Int.max_assoc]) _ _ _
section
variable {a b c d e f : Int} {s : Int}
theorem tw (h : inT s) (n : neB a b c d e f) (k : Nat) : thB s k a b c d e f - tlB s k a b c d e f = pick (d - a) (e - b) (f - c) (tAx s.toNat k) := by
 rw [← pick_map (fun u v => u - v)]
 unfold thB tlB; rw [if_pos h, if_pos n, if_pos h, if_pos n]
 split <;> omega
theorem ne_t (h : inT s) (n : neB a b c d e f) : neB (tlB s 0 a b c d e f) (tlB s 1 a b c d e f) (tlB s 2 a b c d e f) (thB s 0 a b c d e f) (thB s 1 a b c d e f) (thB s 2 a b c d e f) := by
 have w := fun k => tw h n k
 have p := fun m => pick_lt n m
 have q : ∀ k, tlB s k a b c d e f < thB s k a b c d e f := fun k => by
  have := w k
  rw [← pick_map (fun u v => u - v)] at this
  have := p (tAx s.toNat k)
  omega
 exact ⟨q 0, q 1, q 2⟩
theorem vol_t (h : inT s) : volB (tlB s 0 a b c d e f) (tlB s 1 a b c d e f) (tlB s 2 a b c d e f) (thB s 0 a b c d e f) (thB s 1 a b c d e f) (thB s 2 a b c d e f) = volB a b c d e f := by
 by_cases n : neB a b c d e f
 ·rw [vol_ne (ne_t h n), vol_ne n, tw h n, tw h n, tw h n]
  exact sym3 (inT_nat h) (fun x y z => x * y * z) (fun x y z => by rw [Int.mul_comm x y]) (fun x y z => by rw [Int.mul_assoc, Int.mul_comm y z, ← Int.mul_assoc]) _ _ _
 ·rw [vol_zero n, tl_none h _ n, tl_none h _ n, tl_none h _ n, th_none h _ n, th_none h _ n, th_none h _ n]
  exact vol_zero (by unfold neB; omega)
theorem in_one (h : inT s) (n : neB a b c d e f) (k : Nat) (x y z : Int) : (tlB s k a b c d e f ≤ tcB s k x y z ∧ tcB s k x y z < thB s k a b c d e f) ↔ (pick a b c (tAx s.toNat k) ≤ pick x y z (tAx s.toNat k) ∧ pick x y z (tAx s.toNat k) < pick d e f (tAx s.toNat k)) := by
 unfold thB tlB tcB; rw [if_pos h, if_pos n, if_pos h, if_pos n, if_pos h]
 split <;> omega
theorem in_t (h : inT s) (x y z : Int) : inB (tcB s 0 x y z) (tcB s 1 x y z) (tcB s 2 x y z) (tlB s 0 a b c d e f) (tlB s 1 a b c d e f) (tlB s 2 a b c d e f) (thB s 0 a b c d e f) (thB s 1 a b c d e f) (thB s 2 a b c d e f) ↔ inB x y z a b c d e f := by
 by_cases n : neB a b c d e f
 ·have i0 := in_one h n 0 x y z
  have i1 := in_one h n 1 x y z
  have i2 := in_one h n 2 x y z
  have := ax_perm (inT_nat h)
  simp only [List.mem_cons, Prod.mk.injEq, List.not_mem_nil, or_false] at this
  unfold inB
  rcases this with ⟨p, q, r⟩ | ⟨p, q, r⟩ | ⟨p, q, r⟩ | ⟨p, q, r⟩ | ⟨p, q, r⟩ | ⟨p, q, r⟩ <;> rw [p] at i0 <;> rw [q] at i1 <;> rw [r] at i2 <;> simp only [pick] at i0 i1 i2 <;> omega
 ·constructor
  ·intro k
   have := inB_ne k
   rw [tl_none h _ n, tl_none h _ n, tl_none h _ n, th_none h _ n, th_none h _ n, th_none h _ n] at this
   unfold neB at this
   omega
  ·intro k; exact absurd (inB_ne k) n
end
end Vc
end Go.Proofs.YtaacclebncplbaaGreatDoor
