/- Layer 33, plain: the rules of light. -/
import Derived.Test.YtelbilnnmmbmdaaDoorC33P
namespace Go.Proofs.YtelbilnnmmbmdaaDoor
namespace Vc
open Go Go.RowKit
set_option linter.unusedVariables false
def opD (e : Int) : Int := if e = 0 then 1 else if e = 1 then 0 else if e = 2 then 3 else if e = 3 then 2 else if e = 4 then 5 else 4
theorem dir6 {e : Int} (h0 : 0 ≤ e) (h1 : e < 6) : e = 0 ∨ e = 1 ∨ e = 2 ∨ e = 3 ∨ e = 4 ∨ e = 5 := by omega
theorem opD_rng {e : Int} (h0 : 0 ≤ e) (h1 : e < 6) : 0 ≤ opD e ∧ opD e < 6 := by
 rcases dir6 h0 h1 with rfl | rfl | rfl | rfl | rfl | rfl <;> decide
theorem opD_45 {e : Int} (h0 : 0 ≤ e) (h1 : e < 6) : opD e = 4 ↔ e = 5 := by
 rcases dir6 h0 h1 with rfl | rfl | rfl | rfl | rfl | rfl <;> decide
theorem opD_54 {e : Int} (h0 : 0 ≤ e) (h1 : e < 6) : opD e = 5 ↔ e = 4 := by
 rcases dir6 h0 h1 with rfl | rfl | rfl | rfl | rfl | rfl <;> decide
theorem st_op {e : Int} (h0 : 0 ≤ e) (h1 : e < 6) : stX e + stX (opD e) = 0 ∧ stY e + stY (opD e) = 0 ∧ stZ e + stZ (opD e) = 0 := by
 rcases dir6 h0 h1 with rfl | rfl | rfl | rfl | rfl | rfl <;> decide
theorem stp_op {p : Pt} {e : Int} (h0 : 0 ≤ e) (h1 : e < 6) : stpP (stpP p e) (opD e) = p := by
 obtain ⟨a, b, c⟩ := st_op h0 h1
 refine Prod.ext ?_ (Prod.ext ?_ ?_)
 ·show p.1 + stX e + stX (opD e) = p.1
  omega
 ·show p.2.1 + stY e + stY (opD e) = p.2.1
  omega
 ·show p.2.2 + stZ e + stZ (opD e) = p.2.2
  omega
theorem pss_mono {f c d x y : Int} (hf : 1 ≤ f) (h : x ≤ y) : pssB f c d x ≤ pssB f c d y := by
 unfold pssB
 split <;> split <;> omega
theorem pss_fade {f g c d x : Int} (h : f ≤ g) (hf : 1 ≤ f) : pssB g c d x ≤ pssB f c d x := by
 unfold pssB
 split <;> split <;> omega
theorem pss_le {f c d x : Int} (hf : 1 ≤ f) (h : x ≤ 15) : pssB f c d x ≤ 15 := by
 unfold pssB
 split <;> omega
theorem pss_self {f c d x : Int} (hf : 1 ≤ f) : pssB f c d x ≤ x := by
 unfold pssB
 split <;> omega
theorem pss_dir {f c d e x : Int} (h : d = 5 ↔ e = 5) : pssB f c d x = pssB f c e x := by
 unfold pssB
 split <;> split <;> omega
theorem pss_off {f c d x : Int} (h : ¬ (c = 3 ∧ d = 5)) : pssB f c d x = x - f := if_neg fun hc => h ⟨hc.1, hc.2.1⟩
section
variable {b : Bx} {cs : List Int} {t k : X} {L M : Lv} {i c : Int}
theorem ngb_ix {p : Pt} {d : Int} (hv : b.vol = cs.length) (h : ngbB b k p d = true) : (0 ≤ b.idx (stpP p d) ∧ b.idx (stpP p d) < cs.length) ∧ b.has (stpP p d) = true ∧ knwX k (b.idx (stpP p d)) = true := by
 have h : (b.has (stpP p d) && knwX k (b.idx (stpP p d))) = true := h
 rw [Bool.and_eq_true] at h
 have := idx_ok h.1
 exact ⟨by omega, h⟩
theorem ngb_back {e : Int} (hv : b.vol = cs.length) (h0 : 0 ≤ i) (h1 : i < cs.length) (hk : knwX k i = true) (e0 : 0 ≤ e) (e1 : e < 6) (h : ngbB b k (b.at i) e = true) :
 ngbB b k (b.at (b.idx (stpP (b.at i) e))) (opD e) = true ∧ b.idx (stpP (b.at (b.idx (stpP (b.at i) e))) (opD e)) = i := by
 obtain ⟨_, hh, _⟩ := ngb_ix hv h
 have h2 := idx_at (b := b) h0 (by omega)
 refine ⟨?_, by rw [at_idx hh, stp_op e0 e1]; exact h2⟩
 show (b.has (stpP (b.at (b.idx (stpP (b.at i) e))) (opD e)) && knwX k (b.idx (stpP (b.at (b.idx (stpP (b.at i) e))) (opD e)))) = true
 rw [at_idx hh, stp_op e0 e1, h2, hk, at_has h0 (by omega)]
 rfl
theorem own_rng (ht : (chkT t).2 = 0) (h0 : 0 ≤ c) (h1 : c < 4) : 0 ≤ ownB b cs t i c ∧ ownB b cs t i c ≤ 15 := by
 unfold ownB
 by_cases h : c = 3
 ·rw [if_pos h]
  have := pss_le (f := fadX t (cs.getD i.toNat 0)) (c := 3) (d := 5) (x := 15) (fad_rng ht).1 (Int.le_refl _)
  by_cases hq : topB b i = true
  ·rw [if_pos hq]; omega
  ·rw [if_neg hq]; omega
 ·rw [if_neg h]
  exact emt_rng ht h0 (by omega)
theorem own_le_lgt : ∀ n : Nat, ownB b cs t i c ≤ lgtN b cs t k L i c n
 | 0 => Int.le_refl _
 | n + 1 => by
  have := own_le_lgt n
  unfold lgtN
  split
  ·omega
  ·exact this
theorem pss_le_lgt {d : Nat} : ∀ {n : Nat}, d < n → ngbB b k (b.at i) d = true → pssB (fadX t (cs.getD i.toNat 0)) c d (L (b.idx (stpP (b.at i) d)) c) ≤ lgtN b cs t k L i c n
 | n + 1, h, hn => by
  unfold lgtN
  by_cases e : d = n
  ·subst e
   rw [if_pos hn]
   exact Int.le_max_right _ _
  ·have := pss_le_lgt (n := n) (by omega) hn
   split
   ·omega
   ·exact this
theorem lgt_least {m : Int} : ∀ {n : Nat}, ownB b cs t i c ≤ m → (∀ d : Nat, d < n → ngbB b k (b.at i) d = true → pssB (fadX t (cs.getD i.toNat 0)) c d (L (b.idx (stpP (b.at i) d)) c) ≤ m) → lgtN b cs t k L i c n ≤ m
 | 0, ho, _ => ho
 | n + 1, ho, h => by
  have := lgt_least (n := n) ho fun d hd hn => h d (by omega) hn
  unfold lgtN
  split
  ·rename_i hn
   have := h n (by omega) hn
   omega
  ·exact this
theorem stp_on (hk : knwX k i = true) : stpF b cs t k L i c = lgtN b cs t k L i c 6 := if_pos hk
theorem stp_off (hk : ¬ knwX k i = true) : stpF b cs t k L i c = 0 := if_neg hk
theorem stp_least {m : Int} (h0 : 0 ≤ m) (ho : knwX k i = true → ownB b cs t i c ≤ m) (h : ∀ d : Nat, d < 6 → knwX k i = true → ngbB b k (b.at i) d = true → pssB (fadX t (cs.getD i.toNat 0)) c d (L (b.idx (stpP (b.at i) d)) c) ≤ m) : stpF b cs t k L i c ≤ m := by
 by_cases hk : knwX k i = true
 ·rw [stp_on hk]
  exact lgt_least (ho hk) fun d hd hn => h d hd hk hn
 ·rw [stp_off hk]; exact h0
theorem stp_nn (ht : (chkT t).2 = 0) (h0 : 0 ≤ c) (h1 : c < 4) : 0 ≤ stpF b cs t k L i c := by
 by_cases hk : knwX k i = true
 ·rw [stp_on hk]
  exact Int.le_trans (own_rng ht h0 h1).1 (own_le_lgt 6)
 ·rw [stp_off hk]; exact Int.le_refl _
theorem own_le_stp (hk : knwX k i = true) : ownB b cs t i c ≤ stpF b cs t k L i c := by
 rw [stp_on hk]; exact own_le_lgt 6
theorem pss_le_stp {d : Int} (d0 : 0 ≤ d) (d1 : d < 6) (hk : knwX k i = true) (hn : ngbB b k (b.at i) d = true) : pssB (fadX t (cs.getD i.toNat 0)) c d (L (b.idx (stpP (b.at i) d)) c) ≤ stpF b cs t k L i c := by
 rw [stp_on hk]
 have := pss_le_lgt (b := b) (k := k) (i := i) (t := t) (cs := cs) (L := L) (c := c) (d := d.toNat) (n := 6) (by omega) (by rw [Int.toNat_of_nonneg d0]; exact hn)
 rwa [Int.toNat_of_nonneg d0] at this
theorem stp_mono (hv : b.vol = cs.length) (ht : (chkT t).2 = 0) (h0 : 0 ≤ c) (h1 : c < 4) (h : ∀ j : Int, 0 ≤ j → j < cs.length → L j c ≤ M j c) : stpF b cs t k L i c ≤ stpF b cs t k M i c :=
 stp_least (stp_nn ht h0 h1) (fun hk => own_le_stp hk) fun d hd hk hn => by
  obtain ⟨hr, _⟩ := ngb_ix hv hn
  exact Int.le_trans (pss_mono (fad_rng ht).1 (h _ hr.1 hr.2)) (pss_le_stp (by omega) (by omega) hk hn)
theorem stp_ch (hv : b.vol = cs.length) (ht : (chkT t).2 = 0) (h0 : 0 ≤ c) (h1 : c < 4) (h : ∀ j : Int, 0 ≤ j → j < cs.length → L j c = M j c) : stpF b cs t k L i c = stpF b cs t k M i c :=
 Int.le_antisymm (stp_mono hv ht h0 h1 fun j a d => Int.le_of_eq (h j a d)) (stp_mono hv ht h0 h1 fun j a d => Int.le_of_eq (h j a d).symm)
theorem stp_ok (hv : b.vol = cs.length) (ht : (chkT t).2 = 0) : Stp cs.length (stpF b cs t k) where
 mono h i c a d e f := stp_mono hv ht e f fun j p q => h j c p q e f
 rng h i c a d e f := by
  refine ⟨stp_nn ht e f, stp_least (by decide) (fun _ => (own_rng ht e f).2) fun d hd hk hn => ?_⟩
  obtain ⟨hr, _⟩ := ngb_ix hv hn
  exact pss_le (fad_rng ht).1 (h _ c hr.1 hr.2 e f).2
theorem own_grow {cs' : List Int} (ht : (chkT t).2 = 0) (hf : fadX t (cs'.getD i.toNat 0) ≤ fadX t (cs.getD i.toNat 0)) (he : ¬ c = 3 → emtX t (cs.getD i.toNat 0) c ≤ emtX t (cs'.getD i.toNat 0) c) : ownB b cs t i c ≤ ownB b cs' t i c := by
 unfold ownB
 by_cases h : c = 3
 ·rw [if_pos h, if_pos h]
  have := pss_fade (c := 3) (d := 5) (x := 15) hf (fad_rng ht).1
  split <;> omega
 ·rw [if_neg h, if_neg h]
  exact he h
theorem stp_grow {cs' : List Int} {k' : X} (ht : (chkT t).2 = 0) (h0 : 0 ≤ c) (h1 : c < 4) (hf : fadX t (cs'.getD i.toNat 0) ≤ fadX t (cs.getD i.toNat 0)) (he : ¬ c = 3 → emtX t (cs.getD i.toNat 0) c ≤ emtX t (cs'.getD i.toNat 0) c) (hk : ∀ j, knwX k j = true → knwX k' j = true) :
 stpF b cs t k L i c ≤ stpF b cs' t k' L i c :=
 stp_least (stp_nn ht h0 h1) (fun h => Int.le_trans (own_grow ht hf he) (own_le_stp (hk _ h))) fun d hd h hn => by
  have hn' : ngbB b k' (b.at i) d = true := by
   have hn : (b.has (stpP (b.at i) d) && knwX k (b.idx (stpP (b.at i) d))) = true := hn
   show (b.has (stpP (b.at i) d) && knwX k' (b.idx (stpP (b.at i) d))) = true
   rw [Bool.and_eq_true] at hn ⊢
   exact ⟨hn.1, hk _ hn.2⟩
  exact Int.le_trans (pss_fade hf (fad_rng ht).1) (pss_le_stp (by omega) (by omega) (hk _ h) hn')
theorem row4 {v : X} {n : Nat} {j c : Int} (h : RowOk SLv v.r n) (h0 : 0 ≤ j) (h1 : j < n) (c0 : 0 ≤ c) (c1 : c < 4) : 0 ≤ lvX v j c ∧ lvX v j c ≤ 15 := by
 obtain ⟨r0, r1, r2, r3, _⟩ := h j.toNat (by omega)
 rw [Int.toNat_of_nonneg h0] at r0 r1 r2 r3
 have hc : c = 0 ∨ c = 1 ∨ c = 2 ∨ c = 3 := by omega
 rcases hc with rfl | rfl | rfl | rfl
 ·exact r0
 ·exact r1
 ·exact r2
 ·exact r3
theorem lgtR_rng (hv : b.vol = cs.length) (ht : (chkT t).2 = 0) (h0 : 0 ≤ c) (h1 : c < 4) (hL : ∀ j : Int, 0 ≤ j → j < cs.length → L j c ≤ 15) : ∀ n : Nat, 0 ≤ lgtR b cs t k L i c n ∧ lgtR b cs t k L i c n ≤ 15
 | 0 => by
  unfold lgtR
  split
  ·decide
  ·have := emt_rng (t := t) (n := cs.getD i.toNat 0) (c := c) ht h0 (by omega)
   omega
 | n + 1 => by
  have ih := lgtR_rng hv ht h0 h1 hL n
  unfold lgtR
  split
  ·rename_i hn
   obtain ⟨hr, _⟩ := ngb_ix hv hn
   have := hL _ hr.1 hr.2
   have := (fad_rng (t := t) (n := cs.getD i.toNat 0) ht).1
   omega
  ·exact ih
theorem lgt_R (ht : (chkT t).2 = 0) (h0 : 0 ≤ c) (h1 : c < 3) : ∀ n : Nat, lgtN b cs t k L i c n = lgtR b cs t k L i c n
 | 0 => by
  unfold lgtN lgtR ownB
  rw [if_neg (by omega), if_neg (by omega)]
  have := emt_rng (t := t) (n := cs.getD i.toNat 0) (c := c) ht h0 h1
  omega
 | n + 1 => by
  unfold lgtN lgtR
  rw [lgt_R ht h0 h1 n, pss_off (by omega)]
theorem lgt_R3 : ∀ {n : Nat}, n ≤ 5 → lgtN b cs t k L i 3 n = max (ownB b cs t i 3) (lgtR b cs t k L i 3 n) ∨ (lgtN b cs t k L i 3 n = ownB b cs t i 3 ∧ lgtR b cs t k L i 3 n = 0)
 | 0, _ => .inr ⟨rfl, rfl⟩
 | n + 1, h => by
  have ih := lgt_R3 (n := n) (by omega)
  unfold lgtN lgtR
  by_cases hn : ngbB b k (b.at i) n = true
  ·rw [if_pos hn, if_pos hn, pss_off (by omega)]
   by_cases ho : 0 ≤ ownB b cs t i 3
   ·left; omega
   ·have : 0 ≤ ownB b cs t i 3 := by
     unfold ownB
     rw [if_pos rfl]
     split <;> omega
    omega
  ·rw [if_neg hn, if_neg hn]
   exact ih
theorem lgt_R3' (ht : (chkT t).2 = 0) (h0 : 0 ≤ lgtR b cs t k L i 3 5) : lgtN b cs t k L i 3 5 = max (ownB b cs t i 3) (lgtR b cs t k L i 3 5) := by
 have := (own_rng (b := b) (cs := cs) (i := i) (c := 3) ht (by decide) (by decide)).1
 rcases lgt_R3 (b := b) (cs := cs) (t := t) (k := k) (L := L) (i := i) (n := 5) (Nat.le_refl _) with h | h
 ·exact h
 ·omega
theorem cel_sky {up : Int} (hv : b.vol = cs.length) (ht : (chkT t).2 = 0) (hi0 : 0 ≤ i) (hi1 : i < cs.length) (hL : ∀ j : Int, 0 ≤ j → j < cs.length → L j 3 ≤ 15)
 (hu : up = bif decide (b.f ≤ (b.at i).2.2 + 1) then 15 else if ngbB b k (b.at i) 5 = true then L (b.idx (stpP (b.at i) 5)) 3 else 0) :
 lgtN b cs t k L i 3 6 = if up = 15 ∧ fadX t (cs.getD i.toNat 0) = 1 then 15 else max (lgtR b cs t k L i 3 6) (up - fadX t (cs.getD i.toNat 0)) := by
 have r5 := lgtR_rng (k := k) (i := i) (L := L) hv ht (by decide : (0 : Int) ≤ 3) (by decide) hL 5
 have e5 := lgt_R3' (k := k) (i := i) (L := L) (b := b) (cs := cs) ht r5.1
 have hf := fad_rng (t := t) (n := cs.getD i.toNat 0) ht
 have hz := (has_def.1 (at_has (b := b) hi0 (by omega))).2.2
 have eN : lgtN b cs t k L i 3 6 = if ngbB b k (b.at i) 5 = true then max (lgtN b cs t k L i 3 5) (pssB (fadX t (cs.getD i.toNat 0)) 3 5 (L (b.idx (stpP (b.at i) 5)) 3)) else lgtN b cs t k L i 3 5 := rfl
 have eR : lgtR b cs t k L i 3 6 = if ngbB b k (b.at i) 5 = true then max (lgtR b cs t k L i 3 5) (L (b.idx (stpP (b.at i) 5)) 3 - fadX t (cs.getD i.toNat 0)) else lgtR b cs t k L i 3 5 := rfl
 have eO : ownB b cs t i 3 = if topB b i = true then max 0 (pssB (fadX t (cs.getD i.toNat 0)) 3 5 15) else 0 := if_pos rfl
 by_cases htop : b.f ≤ (b.at i).2.2 + 1
 ·have ht1 : topB b i = true := decide_eq_true (by omega)
  have hn : ¬ ngbB b k (b.at i) 5 = true := fun hn => by
   obtain ⟨_, hh, _⟩ := ngb_ix hv hn
   have h3 := (has_def.1 hh).2.2
   have : (stpP (b.at i) 5).2.2 = (b.at i).2.2 + 1 := rfl
   omega
  rw [decide_eq_true htop] at hu
  have hu : up = 15 := hu
  rw [eN, if_neg hn, eR, if_neg hn, e5, eO, if_pos ht1]
  unfold pssB
  split <;> split <;> omega
 ·have ht1 : ¬ topB b i = true := fun h => by
   have := of_decide_eq_true h
   omega
  rw [decide_eq_false htop] at hu
  have hu : up = if ngbB b k (b.at i) 5 = true then L (b.idx (stpP (b.at i) 5)) 3 else 0 := hu
  rw [eN, eR, e5, eO, if_neg ht1]
  by_cases hn : ngbB b k (b.at i) 5 = true
  ·obtain ⟨hr, _⟩ := ngb_ix hv hn
   have := hL _ hr.1 hr.2
   rw [if_pos hn] at hu ⊢
   rw [if_pos hn]
   unfold pssB
   split <;> split <;> omega
  ·rw [if_neg hn] at hu ⊢
   rw [if_neg hn, if_neg (by omega)]
   omega
theorem cel_step {o : X} {d : Nat} {p q r s : Int} (h : celQ b cs t k o i d p q r s) (hn : ngbB b k (b.at i) d = true) :
 celQ b cs t k o i (d + 1) (max p (lvX o (b.idx (stpP (b.at i) d)) 0 - fadX t (cs.getD i.toNat 0))) (max q (lvX o (b.idx (stpP (b.at i) d)) 1 - fadX t (cs.getD i.toNat 0))) (max r (lvX o (b.idx (stpP (b.at i) d)) 2 - fadX t (cs.getD i.toNat 0))) (max s (lvX o (b.idx (stpP (b.at i) d)) 3 - fadX t (cs.getD i.toNat 0))) := by
 obtain ⟨rfl, rfl, rfl, rfl⟩ := h
 exact ⟨(if_pos hn).symm, (if_pos hn).symm, (if_pos hn).symm, (if_pos hn).symm⟩
theorem cel_stay {o : X} {d : Nat} {p q r s : Int} (h : celQ b cs t k o i d p q r s) (hn : ¬ ngbB b k (b.at i) d = true) : celQ b cs t k o i (d + 1) p q r s := by
 obtain ⟨rfl, rfl, rfl, rfl⟩ := h
 exact ⟨(if_neg hn).symm, (if_neg hn).symm, (if_neg hn).symm, (if_neg hn).symm⟩
theorem cel_end {o : X} {p q r s up z : Int} (h : celQ b cs t k o i 6 p q r s) (hv : b.vol = cs.length) (ht : (chkT t).2 = 0) (hk : knwX k i = true) (hi0 : 0 ≤ i) (hi1 : i < cs.length) (hL : ∀ j : Int, 0 ≤ j → j < cs.length → ∀ c : Int, 0 ≤ c → c < 4 → lvX o j c ≤ 15)
 (hu : up = bif decide (b.f ≤ (b.at i).2.2 + 1) then 15 else if ngbB b k (b.at i) 5 = true then lvX o (b.idx (stpP (b.at i) 5)) 3 else 0)
 (hz : z = if up = 15 ∧ fadX t (cs.getD i.toNat 0) = 1 then 15 else max s (up - fadX t (cs.getD i.toNat 0))) :
 (p = stpF b cs t k (lvX o) i 0 ∧ 0 ≤ stpF b cs t k (lvX o) i 0 ∧ stpF b cs t k (lvX o) i 0 ≤ 15) ∧ (q = stpF b cs t k (lvX o) i 1 ∧ 0 ≤ stpF b cs t k (lvX o) i 1 ∧ stpF b cs t k (lvX o) i 1 ≤ 15) ∧ (r = stpF b cs t k (lvX o) i 2 ∧ 0 ≤ stpF b cs t k (lvX o) i 2 ∧ stpF b cs t k (lvX o) i 2 ≤ 15) ∧ (z = stpF b cs t k (lvX o) i 3 ∧ 0 ≤ stpF b cs t k (lvX o) i 3 ∧ stpF b cs t k (lvX o) i 3 ≤ 15) := by
 obtain ⟨rfl, rfl, rfl, rfl⟩ := h
 have hr : ∀ c : Int, 0 ≤ c → c < 4 → 0 ≤ stpF b cs t k (lvX o) i c ∧ stpF b cs t k (lvX o) i c ≤ 15 := fun c h0 h1 =>
  ⟨stp_nn ht h0 h1, stp_least (by decide) (fun _ => (own_rng ht h0 h1).2) fun d hd hk hn => by
    obtain ⟨hr, _⟩ := ngb_ix hv hn
    exact pss_le (fad_rng ht).1 (hL _ hr.1 hr.2 c h0 h1)⟩
 have e : ∀ c : Int, 0 ≤ c → c < 3 → lgtR b cs t k (lvX o) i c 6 = stpF b cs t k (lvX o) i c := fun c h0 h1 => by rw [stp_on hk, lgt_R ht h0 h1]
 refine ⟨⟨e 0 (by decide) (by decide), hr 0 (by decide) (by decide)⟩, ⟨e 1 (by decide) (by decide), hr 1 (by decide) (by decide)⟩, ⟨e 2 (by decide) (by decide), hr 2 (by decide) (by decide)⟩, ?_, hr 3 (by decide) (by decide)⟩
 rw [hz, stp_on hk]
 exact (cel_sky hv ht hi0 hi1 (fun j a d => hL j a d 3 (by decide) (by decide)) hu).symm
end
theorem st0 {x y z : Int} : stpP (x, y, z) 0 = (x - 1, y, z) := Prod.ext (by show x + -1 = x - 1; omega) (Prod.ext (by show y + 0 = y; omega) (by show z + 0 = z; omega))
theorem st1 {x y z : Int} : stpP (x, y, z) 1 = (x + 1, y, z) := Prod.ext (by show x + 1 = x + 1; omega) (Prod.ext (by show y + 0 = y; omega) (by show z + 0 = z; omega))
theorem st2 {x y z : Int} : stpP (x, y, z) 2 = (x, y - 1, z) := Prod.ext (by show x + 0 = x; omega) (Prod.ext (by show y + -1 = y - 1; omega) (by show z + 0 = z; omega))
theorem st3 {x y z : Int} : stpP (x, y, z) 3 = (x, y + 1, z) := Prod.ext (by show x + 0 = x; omega) (Prod.ext (by show y + 1 = y + 1; omega) (by show z + 0 = z; omega))
theorem st4 {x y z : Int} : stpP (x, y, z) 4 = (x, y, z - 1) := Prod.ext (by show x + 0 = x; omega) (Prod.ext (by show y + 0 = y; omega) (by show z + -1 = z - 1; omega))
theorem st5 {x y z : Int} : stpP (x, y, z) 5 = (x, y, z + 1) := Prod.ext (by show x + 0 = x; omega) (Prod.ext (by show y + 0 = y; omega) (by show z + 1 = z + 1; omega))
end Vc
end Go.Proofs.YtelbilnnmmbmdaaDoor
