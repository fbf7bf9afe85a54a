/- Layer 4 in plain terms: the group of the symmetries. -/
import Derived.Test.YtaacclebncplbaaGreatDoorC04S
import Derived.Test.YtaacclebncplbaaGreatDoorC04L
namespace Go.Proofs.YtaacclebncplbaaGreatDoor
namespace Vc
open Go Go.RowKit
set_option linter.unusedVariables false
theorem all48 {f : Nat → Nat → Bool} (h : ((List.range 48).all fun a => (List.range 48).all fun b => f a b) = true) {a b : Nat} (ha : a < 48) (hb : b < 48) : f a b = true :=
 List.all_eq_true.1 (List.all_eq_true.1 h a (by simpa using ha)) b (by simpa using hb)
theorem ax_tab : ((List.range 48).all fun a => (List.range 48).all fun b => (List.range 3).all fun k => decide (tAx (cmN a b) k = tAx b (tAx a k) ∧ tNg (cmN a b) k = (tNg a k != tNg b (tAx a k)))) = true := by decide +kernel
theorem cm_ax {a b k : Nat} (ha : a < 48) (hb : b < 48) (hk : k < 3) : tAx (cmN a b) k = tAx b (tAx a k) ∧ tNg (cmN a b) k = (tNg a k != tNg b (tAx a k)) :=
 of_decide_eq_true (List.all_eq_true.1 (all48 ax_tab ha hb) k (by simpa using hk))
theorem cm_in {a b : Int} (ha : inT a) (hb : inT b) : cmB a b = (cmN a.toNat b.toNat : Nat) := by unfold cmB; exact if_pos ⟨ha, hb⟩
theorem cm_inT {a b : Int} (ha : inT a) (hb : inT b) : inT (cmB a b) := by
 obtain ⟨t, ht, e, _⟩ := cm_mark ha hb
 rw [e]; exact inT_of ht
theorem pick_fun (g : Nat → Int) {m : Nat} (h : m < 3) : pick (g 0) (g 1) (g 2) m = g m := by
 match m, h with
 | 0, _ => rfl
 | 1, _ => rfl
 | 2, _ => rfl
theorem tn_cm {a b : Int} (ha : inT a) (hb : inT b) {k : Nat} (hk : k < 3) (x y z : Int) : tnB (cmB a b) k x y z = tnB a k (tnB b 0 x y z) (tnB b 1 x y z) (tnB b 2 x y z) := by
 have hi := cm_inT ha hb
 have h := cm_ax (inT_nat ha) (inT_nat hb) hk
 have hm := tAx_lt (inT_nat ha) hk
 have hp := pick_fun (fun m => tnB b m x y z) hm
 rw [cm_in ha hb] at hi ⊢
 rw [show tnB a k (tnB b 0 x y z) (tnB b 1 x y z) (tnB b 2 x y z) = if tNg a.toNat k then 0 - pick (tnB b 0 x y z) (tnB b 1 x y z) (tnB b 2 x y z) (tAx a.toNat k) else pick (tnB b 0 x y z) (tnB b 1 x y z) (tnB b 2 x y z) (tAx a.toNat k) from if_pos ha, hp]
 unfold tnB
 rw [if_pos hi, if_pos hb, Int.toNat_natCast, h.1, h.2]
 cases tNg a.toNat k <;> cases tNg b.toNat (tAx a.toNat k) <;> simp <;> omega
theorem tc_cm {a b : Int} (ha : inT a) (hb : inT b) {k : Nat} (hk : k < 3) (x y z : Int) : tcB (cmB a b) k x y z = tcB a k (tcB b 0 x y z) (tcB b 1 x y z) (tcB b 2 x y z) := by
 have hi := cm_inT ha hb
 have h := cm_ax (inT_nat ha) (inT_nat hb) hk
 have hm := tAx_lt (inT_nat ha) hk
 have hp := pick_fun (fun m => tcB b m x y z) hm
 rw [cm_in ha hb] at hi ⊢
 rw [show tcB a k (tcB b 0 x y z) (tcB b 1 x y z) (tcB b 2 x y z) = if tNg a.toNat k then 0 - pick (tcB b 0 x y z) (tcB b 1 x y z) (tcB b 2 x y z) (tAx a.toNat k) - 1 else pick (tcB b 0 x y z) (tcB b 1 x y z) (tcB b 2 x y z) (tAx a.toNat k) from if_pos ha, hp]
 unfold tcB
 rw [if_pos hi, if_pos hb, Int.toNat_natCast, h.1, h.2]
 cases tNg a.toNat k <;> cases tNg b.toNat (tAx a.toNat k) <;> simp <;> omega
theorem mark_inj {s t : Int} (hs : inT s) (ht : inT t) (h : ∀ k, k < 3 → tnB s k 1 2 3 = tnB t k 1 2 3) : s = t := by
 have es : ((s.toNat : Nat) : Int) = s := by unfold inT at hs; omega
 have et : ((t.toNat : Nat) : Int) = t := by unfold inT at ht; omega
 have a := num_mk s.toNat (inT_nat hs)
 have b := num_mk t.toNat (inT_nat ht)
 rw [es] at a
 rw [et] at b
 rw [h 0 (by omega), h 1 (by omega), h 2 (by omega), b] at a
 exact a.symm
theorem cm_assoc {x y z : Int} (hx : inT x) (hy : inT y) (hz : inT z) : cmB (cmB x y) z = cmB x (cmB y z) := by
 refine mark_inj (cm_inT (cm_inT hx hy) hz) (cm_inT hx (cm_inT hy hz)) fun k hk => ?_
 rw [tn_cm (cm_inT hx hy) hz hk, tn_cm hx hy hk, tn_cm hx (cm_inT hy hz) hk, tn_cm hy hz (by omega), tn_cm hy hz (by omega), tn_cm hy hz (by omega)]
theorem unit_tab : ((List.range 48).all fun s => decide (cmB (s : Nat) 0 = s ∧ cmB 0 (s : Nat) = s ∧ cmB (s : Nat) (ivB (s : Nat)) = 0 ∧ cmB (ivB (s : Nat)) (s : Nat) = 0)) = true := by decide +kernel
theorem unit_ok {s : Int} (h : inT s) : cmB s 0 = s ∧ cmB 0 s = s ∧ cmB s (ivB s) = 0 ∧ cmB (ivB s) s = 0 := by
 have es : ((s.toNat : Nat) : Int) = s := by unfold inT at h; omega
 have := of_decide_eq_true (List.all_eq_true.1 unit_tab s.toNat (by simpa using inT_nat h))
 rw [es] at this
 exact this
theorem mr_tab : ((List.range 48).all fun a => (List.range 48).all fun b => decide (mrB (cmB (a : Nat) (b : Nat)) = !(mrB (a : Nat) == mrB (b : Nat)))) = true := by decide +kernel
theorem mr_ok {a b : Int} (ha : inT a) (hb : inT b) : mrB (cmB a b) = !(mrB a == mrB b) := by
 have ea : ((a.toNat : Nat) : Int) = a := by unfold inT at ha; omega
 have eb : ((b.toNat : Nat) : Int) = b := by unfold inT at hb; omega
 have := of_decide_eq_true (all48 mr_tab (inT_nat ha) (inT_nat hb))
 rw [ea, eb] at this
 exact this
theorem nm_tab : ((List.range 48).all fun a => (List.range 48).all fun b => decide (strEq (nmX (a : Nat)).v (nmX (b : Nat)).v = decide ((a : Int) = (b : Int)))) = true := by decide +kernel
theorem nm_ok {a b : Int} (ha : inT a) (hb : inT b) : strEq (nmX a).v (nmX b).v = decide (a = b) := by
 have ea : ((a.toNat : Nat) : Int) = a := by unfold inT at ha; omega
 have eb : ((b.toNat : Nat) : Int) = b := by unfold inT at hb; omega
 have := of_decide_eq_true (all48 nm_tab (inT_nat ha) (inT_nat hb))
 rw [ea, eb] at this
 exact this
theorem pick_sub (x y z n : Int) (m : Nat) : pick (x - n) (y - n) (z - n) m = pick x y z m - n := by unfold pick; split <;> rfl
theorem dnot (t : Int) : decide (t + 1 ≤ t) = false := decide_eq_false (by omega)
theorem tl_cell {s : Int} (h : inT s) (k : Nat) {a b c d e f : Int} (n : neB a b c d e f) : min (tcB s k a b c) (tcB s k (d - 1) (e - 1) (f - 1)) = tlB s k a b c d e f := by
 have := pick_lt n (tAx s.toNat k)
 unfold tlB tcB; rw [if_pos h, if_pos n, if_pos h, if_pos h, pick_sub]
 split <;> omega
theorem th_cell {s : Int} (h : inT s) (k : Nat) {a b c d e f : Int} (n : neB a b c d e f) : max (tcB s k a b c + 1) (tcB s k (d - 1) (e - 1) (f - 1) + 1) = thB s k a b c d e f := by
 have := pick_lt n (tAx s.toNat k)
 unfold thB tcB; rw [if_pos h, if_pos n, if_pos h, if_pos h, pick_sub]
 split <;> omega
end Vc
end Go.Proofs.YtaacclebncplbaaGreatDoor
