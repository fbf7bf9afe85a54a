/- Layer 33, plain: light as a least fixed point. -/
import Derived.Test.YtelbilnnmmbmdaaDoorC33L
namespace Go.Proofs.YtelbilnnmmbmdaaDoor
namespace Vc
open Go Go.RowKit
set_option linter.unusedVariables false
def inR (n : Int) (P : Int → Int → Prop) : Prop := ∀ i c : Int, 0 ≤ i → i < n → 0 ≤ c → c < 4 → P i c
abbrev Lv := Int → Int → Int
def leR (n : Int) (F G : Lv) : Prop := inR n fun i c => F i c ≤ G i c
def eqR (n : Int) (F G : Lv) : Prop := inR n fun i c => F i c = G i c
def lvR (n : Int) (F : Lv) : Prop := inR n fun i c => 0 ≤ F i c ∧ F i c ≤ 15
theorem leR.trans {n : Int} {F G H : Lv} (h : leR n F G) (k : leR n G H) : leR n F H := fun i c a b d e => Int.le_trans (h i c a b d e) (k i c a b d e)
theorem leR.anti {n : Int} {F G : Lv} (h : leR n F G) (k : leR n G F) : eqR n F G := fun i c a b d e => Int.le_antisymm (h i c a b d e) (k i c a b d e)
theorem eqR.le {n : Int} {F G : Lv} (h : eqR n F G) : leR n F G := fun i c a b d e => Int.le_of_eq (h i c a b d e)
theorem eqR.symm {n : Int} {F G : Lv} (h : eqR n F G) : eqR n G F := fun i c a b d e => (h i c a b d e).symm
theorem eqR.trans {n : Int} {F G H : Lv} (h : eqR n F G) (k : eqR n G H) : eqR n F H := fun i c a b d e => (h i c a b d e).trans (k i c a b d e)
theorem eqR.lv {n : Int} {F G : Lv} (h : eqR n F G) (k : lvR n G) : lvR n F := fun i c a b d e => by
 have h1 : F i c = G i c := h i c a b d e
 show 0 ≤ F i c ∧ F i c ≤ 15
 rw [h1]
 exact k i c a b d e
theorem leR.rfl {n : Int} {F : Lv} : leR n F F := fun _ _ _ _ _ _ => Int.le_refl _
structure Stp (n : Int) (S : Lv → Lv) : Prop where
 mono : ∀ {F G}, leR n F G → leR n (S F) (S G)
 rng : ∀ {F}, lvR n F → lvR n (S F)
def smN (F : Lv) : Nat → Int
 | 0 => 0
 | n + 1 => smN F n + (F n 0 + F n 1 + F n 2 + F n 3)
theorem smN_le {F G : Lv} : ∀ {n : Nat}, leR n F G → smN F n ≤ smN G n
 | 0, _ => Int.le_refl _
 | n + 1, h => by
  have := smN_le (n := n) fun i c a b d e => h i c a (by omega) d e
  have h0 := h n 0 (by omega) (by omega) (by omega) (by omega)
  have h1 := h n 1 (by omega) (by omega) (by omega) (by omega)
  have h2 := h n 2 (by omega) (by omega) (by omega) (by omega)
  have h3 := h n 3 (by omega) (by omega) (by omega) (by omega)
  simp only at h0 h1 h2 h3
  unfold smN
  omega
theorem smN_lt {F G : Lv} : ∀ {n : Nat}, leR n F G → ¬ eqR n F G → smN F n < smN G n
 | 0, _, h => (h fun i c a b => by omega).elim
 | n + 1, h, hn => by
  have h' : leR n F G := fun i c a b d e => h i c a (by omega) d e
  have h0 := h n 0 (by omega) (by omega) (by omega) (by omega)
  have h1 := h n 1 (by omega) (by omega) (by omega) (by omega)
  have h2 := h n 2 (by omega) (by omega) (by omega) (by omega)
  have h3 := h n 3 (by omega) (by omega) (by omega) (by omega)
  simp only at h0 h1 h2 h3
  unfold smN
  by_cases he : eqR n F G
  ·have := smN_le h'
   by_cases hq : F n 0 = G n 0 ∧ F n 1 = G n 1 ∧ F n 2 = G n 2 ∧ F n 3 = G n 3
   ·refine (hn fun i c a b d e => ?_).elim
    by_cases hi : i < n
    ·exact he i c a hi d e
    ·have : i = n := by omega
     subst this
     have : c = 0 ∨ c = 1 ∨ c = 2 ∨ c = 3 := by omega
     rcases this with rfl | rfl | rfl | rfl
     ·exact hq.1
     ·exact hq.2.1
     ·exact hq.2.2.1
     ·exact hq.2.2.2
   ·omega
  ·have := smN_lt h' he
   omega
theorem smN_rng {F : Lv} : ∀ {n : Nat}, lvR n F → 0 ≤ smN F n ∧ smN F n ≤ 60 * n
 | 0, _ => ⟨Int.le_refl _, Int.le_refl _⟩
 | n + 1, h => by
  have := smN_rng (n := n) fun i c a b d e => h i c a (by omega) d e
  have h0 := h n 0 (by omega) (by omega) (by omega) (by omega)
  have h1 := h n 1 (by omega) (by omega) (by omega) (by omega)
  have h2 := h n 2 (by omega) (by omega) (by omega) (by omega)
  have h3 := h n 3 (by omega) (by omega) (by omega) (by omega)
  simp only at h0 h1 h2 h3
  unfold smN
  omega
theorem lk_to {n : Nat} {F : Lv} : eqR n (lkL (toL n F)) F := fun i c a b d e => by
 show ((toL n F).getD i.toNat []).getD c.toNat 0 = F i c
 have h : (toL n F).getD i.toNat [] = [F i 0, F i 1, F i 2, F i 3] := by
  unfold toL
  rw [List.getD_eq_getElem?_getD, List.getElem?_map, List.getElem?_range (by omega)]
  show [F (i.toNat : Nat) 0, F (i.toNat : Nat) 1, F (i.toNat : Nat) 2, F (i.toNat : Nat) 3] = _
  rw [Int.toNat_of_nonneg a]
 rw [h]
 have : c = 0 ∨ c = 1 ∨ c = 2 ∨ c = 3 := by omega
 rcases this with rfl | rfl | rfl | rfl <;> rfl
theorem to_eq {n : Nat} {F G : Lv} (h : eqR n F G) : toL n F = toL n G := by
 unfold toL
 refine List.map_congr_left fun i hi => ?_
 have hi := List.mem_range.1 hi
 rw [h i 0 (by omega) (by omega) (by omega) (by omega), h i 1 (by omega) (by omega) (by omega) (by omega), h i 2 (by omega) (by omega) (by omega) (by omega), h i 3 (by omega) (by omega) (by omega) (by omega)]
section
variable {n : Nat} {S S' : Lv → Lv}
theorem Stp.congr (h : Stp n S) {F G : Lv} (e : eqR n F G) : eqR n (S F) (S G) := (h.mono e.le).anti (h.mono e.symm.le)
theorem lfp_ok (h : Stp n S) : ∀ {k : Nat} {l : List (List Int)}, lvR n (lkL l) → leR n (lkL l) (S (lkL l)) → l = toL n (lkL l) → (60 * (n : Int) < smN (lkL l) n + k) →
 lvR n (lkL (lfpL n S k l)) ∧ eqR n (S (lkL (lfpL n S k l))) (lkL (lfpL n S k l)) ∧ ∀ G, leR n (lkL l) G → leR n (S G) G → leR n (lkL (lfpL n S k l)) G
 | 0, l, h1, _, _, h4 => by
  have := smN_rng h1
  omega
 | k + 1, l, h1, h2, h3, h4 => by
  unfold lfpL
  by_cases he : toL n (S (lkL l)) = l
  ·rw [if_pos he]
   refine ⟨h1, ?_, fun G hG _ => hG⟩
   have := lk_to (n := n) (F := S (lkL l))
   rw [he] at this
   exact this.symm
  ·rw [if_neg he]
   have e0 := lk_to (n := n) (F := S (lkL l))
   have hne : ¬ eqR n (lkL l) (S (lkL l)) := fun hc => he (by rw [← to_eq hc]; exact h3.symm)
   have hlt := smN_lt h2 hne
   have hs : smN (lkL (toL n (S (lkL l)))) n = smN (S (lkL l)) n := Int.le_antisymm (smN_le e0.le) (smN_le e0.symm.le)
   obtain ⟨a, b, c⟩ := lfp_ok h (k := k) (l := toL n (S (lkL l))) (e0.lv (h.rng h1))
    (e0.le.trans ((h.mono h2).trans (h.congr e0).symm.le)) (to_eq e0).symm (by rw [hs]; omega)
   exact ⟨a, b, fun G hG hS => c G (e0.le.trans ((h.mono hG).trans hS)) hS⟩
end
section
variable {n : Nat} {S S' : Lv → Lv}
theorem zer_lv : lvR n zerF := fun i c _ _ _ _ => by
 show (0 : Int) ≤ 0 ∧ (0 : Int) ≤ 15
 omega
theorem lfp_all (h : Stp n S) : lvR n (lfpF n S) ∧ eqR n (S (lfpF n S)) (lfpF n S) ∧ ∀ G, leR n zerF G → leR n (S G) G → leR n (lfpF n S) G := by
 have e0 := lk_to (n := n) (F := zerF)
 have hl : lvR n (lkL (toL n zerF)) := e0.lv zer_lv
 have := smN_rng hl
 obtain ⟨a, b, c⟩ := lfp_ok h (k := 60 * n + 1) (l := toL n zerF) hl (e0.le.trans fun i c a b d e => (h.rng hl i c a b d e).1) (to_eq e0).symm (by omega)
 exact ⟨a, b, fun G hG hS => c G (e0.le.trans hG) hS⟩
theorem lfp_lv (h : Stp n S) : lvR n (lfpF n S) := (lfp_all h).1
theorem lfp_fix (h : Stp n S) : eqR n (S (lfpF n S)) (lfpF n S) := (lfp_all h).2.1
theorem lv_zer {F : Lv} (h : lvR n F) : leR n zerF F := fun i c a b d e => (h i c a b d e).1
theorem lfp_least (h : Stp n S) {G : Lv} (hG : lvR n G) (hS : leR n (S G) G) : leR n (lfpF n S) G := (lfp_all h).2.2 G (lv_zer hG) hS
theorem lfp_mono (h : Stp n S) (h' : Stp n S') (hS : ∀ F, lvR n F → leR n (S F) (S' F)) : leR n (lfpF n S) (lfpF n S') :=
 lfp_least h (lfp_lv h') ((hS _ (lfp_lv h')).trans (lfp_fix h').le)
theorem lfp_congr (h : Stp n S) (h' : Stp n S') (hS : ∀ F, lvR n F → eqR n (S F) (S' F)) : eqR n (lfpF n S) (lfpF n S') :=
 (lfp_mono h h' fun F hF => (hS F hF).le).anti (lfp_mono h' h fun F hF => (hS F hF).symm.le)
end
end Vc
end Go.Proofs.YtelbilnnmmbmdaaDoor
