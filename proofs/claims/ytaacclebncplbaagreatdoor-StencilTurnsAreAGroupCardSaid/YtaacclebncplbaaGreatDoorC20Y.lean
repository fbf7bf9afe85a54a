/- Layer 20, plain: the law of the group of turns. -/
import Derived.Test.YtaacclebncplbaaGreatDoorC20R
namespace Go.Proofs.YtaacclebncplbaaGreatDoor
namespace Vc
open Go Go.RowKit
set_option linter.unusedVariables false
section
variable {b : Bx} {cs l l' c1 c2 m : List Int} {v : Pt} {k x : Int} {g : Gr} {o : X}
theorem fsN_le : ∀ n : Nat, fsN g n ≤ n
 | 0 => Nat.le_refl _
 | n + 1 => by
  have := fsN_le n
  unfold fsN
  split <;> omega
def flg (g : Gr) (o : X) : Prop := ∀ k : Int, inS g k → (o.r k 0).b = true
theorem flg_of (hg : validG g = true) (h : ∀ k : Nat, k < 48 → ((o.r k 0).b = true ↔ (k : Int) ∈ tnL g.bx g.cs 48)) : flg g o := fun k hk => by
 have := (h k.toNat (inT_nat hk.1)).2
 have e : ((k.toNat : Nat) : Int) = k := by have := hk.1; unfold inT at this; omega
 rw [e] at this
 exact this ((tn_mem hg k).2 hk)
theorem el_inS (hg : validG g = true) {t : X} (e : lstX deI t = tnL g.bx g.cs 48) {j : Int} (h0 : 0 ≤ j) (h1 : j < t.i) : inS g (t.r j 0).i := by
 have := lx_mem (dec := deI) (l := t) h0 h1
 rw [e, tn_mem hg] at this
 exact this
theorem nat_int {j : Int} (h : 0 ≤ j) : ((j.toNat : Nat) : Int) = j := Int.toNat_of_nonneg h
theorem flg_step {t : X} {i : Int} (h0 : 0 ≤ i) (h1 : i < t.i) (h : ∀ k : Nat, k < 48 → ((o.r k 0).b = true ↔ (k : Int) ∈ (lstX deI t).take i.toNat)) (k : Nat) (hk : k < 48) :
 (rwSet o.r (t.r i 0).i 0 (xB true) k 0).b = true ↔ (k : Int) ∈ (lstX deI t).take (i + 1).toNat := by
 rw [lx_take (dec := deI) h0 h1, List.mem_append, List.mem_singleton, ← h k hk]
 show (if (k : Int) = (t.r i 0).i ∧ (0 : Int) = 0 then (xB true).y else o.r k 0).b = true ↔ _ ∨ (k : Int) = (t.r i 0).i
 by_cases e : (k : Int) = (t.r i 0).i
 ·rw [if_pos ⟨e, rfl⟩]
  exact ⟨fun _ => .inr e, fun _ => rfl⟩
 ·rw [if_neg fun h => e h.1]
  exact ⟨.inl, fun h => h.resolve_right e⟩
theorem eqP_at (e1 : l = turL k b cs) (e2 : l' = turL x b cs) (e3 : c1 = l) (e4 : c2 = l') (h1 : 0 ≤ k) (h2 : 0 ≤ x) : eqG (ppB (turB k b) l) c1 (ppB (turB x b) l') c2 = eqP ⟨b, cs⟩ k.toNat x.toNat := by
 rw [e3, e4, e1, e2, pp_pt, pp_pt]
 unfold eqP paG
 rw [nat_int h1, nat_int h2]
theorem grp_val (hg : validG ⟨b, cs⟩ = true) (hk : inT k) (nb : nB 1000 b) (hv : nP 1000 v) (e : l = turL k b cs) (e' : l' = l) : validG ⟨shfB (turB k b) l v, l'⟩ = true := by
 have h1 := tur_val (k := k) hg
 have h2 := tur_nB (k := k) nb
 obtain ⟨vx, vy, vz⟩ := v
 rw [e', e]
 refine val_shf h1 ?_
 unfold shfB
 split
 ·exact val_in h1
 ·unfold nB nI at h2
  unfold nP nI at hv
  simp only at hv
  refine in20_iff.2 ?_
  simp only
  omega
theorem grp_all (hg : validG ⟨b, cs⟩ = true) (hk : inT k) (hT : validG ⟨shfB (turB k b) l v, l'⟩ = true) (e : l = turL k b cs) (e' : l' = l) : (caG ⟨b, cs⟩ 48).1 = (caG ⟨shfB (turB k b) l v, l'⟩ 48).1 := by
 subst e' e
 exact caG_tur hg hk (fun j hj => paG_shf hj hk hg) (caN_O hT 48)
theorem grp_eq (h : (caG ⟨b, cs⟩ 48).1 = (caG g 48).1) (e1 : c1 = (caN b cs 48).1.cs) (e2 : c2 = (caN g.bx g.cs 48).1.cs) : eqG (caN b cs 48).1.bx c1 (caN g.bx g.cs 48).1.bx c2 = true := by
 rw [e1, e2]
 exact eqG_gr.2 h
theorem grp_pat (hT : validG g = true) (e2 : c2 = (caN g.bx g.cs 48).1.cs) (e3 : l = turL (caN g.bx g.cs 48).2 g.bx g.cs) (e4 : m = l) : eqG (caN g.bx g.cs 48).1.bx c2 (ppB (turB (caN g.bx g.cs 48).2 g.bx) l) m = true := by
 rw [e4, e2, e3, pp_pt]
 exact eqG_gr (g := (caG g 48).1) (h := paG (caG g 48).2 g).2 caG_at
theorem lk_eq {b' : Bx} {cs' : List Int} : lkB b cs b' cs' = decide (odG (caG ⟨b, cs⟩ 48).1 (caG ⟨b', cs'⟩ 48).1 = 0) := by
 unfold lkB caG odG
 generalize caN b cs 48 = p
 generalize caN b' cs' 48 = q
 rcases p with ⟨p, _⟩
 rcases q with ⟨q, _⟩
 rfl
theorem grp_lk (h : (caG ⟨b, cs⟩ 48).1 = (caG g 48).1) : lkB b cs g.bx g.cs = true := by
 rw [lk_eq]
 refine decide_eq_true ?_
 show odG (caG ⟨b, cs⟩ 48).1 (caG g 48).1 = 0
 rw [h]
 exact odG_self
end
end Vc
end Go.Proofs.YtaacclebncplbaaGreatDoor
