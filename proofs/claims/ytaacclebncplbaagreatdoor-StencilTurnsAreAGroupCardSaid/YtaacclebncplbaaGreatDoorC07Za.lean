/- Layer 7, plain: what the laws ask. -/
import Derived.Test.YtaacclebncplbaaGreatDoorC07T
namespace Go.Proofs.YtaacclebncplbaaGreatDoor
namespace Vc
open Go Go.RowKit
set_option linter.unusedVariables false
section
variable {b b' : Bx} {cs cs' : List Int} {p q : Pt} {n s : Int}
theorem eqG_self : eqG b cs b cs = true := by
 unfold eqG
 simp
theorem eqG_of (h : b = b') (h2 : cs = cs') : eqG b cs b' cs' = true := by
 subst h h2
 exact eqG_self
theorem val_len {g : Gr} (h : validG g = true) : g.bx.vol = g.cs.length := by
 unfold validG at h
 simp only [Bool.and_eq_true, decide_eq_true_eq] at h
 exact h.1.2
theorem val_mat {g : Gr} (h : validG g = true) : g.cs.all matB = true := by
 unfold validG at h
 simp only [Bool.and_eq_true] at h
 exact h.2
theorem val_cells (h : validG ⟨b, cs⟩ = true) (hl : cs'.length = cs.length) (hm : cs'.all matB = true) : validG ⟨b, cs'⟩ = true := by
 unfold validG at h ⊢
 simp only [Bool.and_eq_true, decide_eq_true_eq] at h ⊢
 exact ⟨⟨h.1.1, by rw [hl]; exact h.1.2⟩, hm⟩
theorem val_setM (h : validG ⟨b, cs⟩ = true) (hn : matB n = true) : validG ⟨b, setL b cs p n⟩ = true := by
 refine val_cells h set_len ?_
 have hm : cs.all matB = true := val_mat h
 unfold setL
 split
 ·refine List.all_eq_true.2 fun x hx => ?_
  rcases List.mem_or_eq_of_mem_set hx with h1 | h1
  ·exact List.all_eq_true.1 hm x h1
  ·rw [h1]; exact hn
 ·exact hm
theorem getL_has (h : b.has p = true) : getL b cs p = cs.getD (b.idx p).toNat 0 := if_pos (idx_ok h).1
theorem getL_no (h : ¬ b.has p = true) : getL b cs p = 0 := if_neg fun h' => h (idx_has.1 h')
theorem get_set (hv : b.vol = cs.length) : getL b (setL b cs p n) p = if b.has p = true then n else 0 := by
 split
 ·rename_i h
  have hi := idx_ok h
  rw [getL_has h]
  unfold setL
  rw [if_pos hi.1, getD_set, if_pos ⟨rfl, by omega⟩]
 ·rename_i h
  rw [getL_no h]
theorem get_set_ne (h : p ≠ q) : getL b (setL b cs p n) q = getL b cs q := by
 by_cases hq : b.has q = true
 ·rw [getL_has hq, getL_has hq]
  unfold setL
  split
  ·rename_i hp
   have hp' := idx_has.1 hp
   rw [getD_set, if_neg]
   intro he
   have := idx_ok hq
   exact h (idx_inj hp' hq (by omega))
  ·rfl
 ·rw [getL_no hq, getL_no hq]
theorem getL_at (h : (n : Int) = n) {i : Nat} (hi : (i : Int) < b.vol) : getL b cs (b.at i) = cs.getD i 0 := by
 rw [getL_has (at_has (by omega) hi), idx_at (by omega) hi]
 rfl
theorem getL_ext (h1 : b.vol = cs.length) (h2 : b.vol = cs'.length) (h : ∀ p, b.has p = true → getL b cs p = getL b cs' p) : cs = cs' := by
 refine ext_getD 0 (by omega) fun j hj => ?_
 have hj' : (j : Int) < b.vol := by omega
 have := h (b.at j) (at_has (by omega) hj')
 rwa [getL_at (n := 0) rfl hj', getL_at (n := 0) rfl hj'] at this
theorem get_pas (hv : b.vol = cs.length) : getL b (pasL b cs b' cs') p = if b.has p = true ∧ b'.has p = true then getL b' cs' p else getL b cs p := by
 by_cases h : b.has p = true
 ·have hi := idx_ok h
  have hj : (b.idx p).toNat < cs.length := by omega
  have hat : b.at ((b.idx p).toNat : Nat) = p := by rw [Int.toNat_of_nonneg hi.1]; exact at_idx h
  rw [getL_has h, pas_getD hj, hat, getL_has (cs := cs) h]
  by_cases h' : b'.has p = true
  ·rw [if_pos h', if_pos ⟨h, h'⟩]
  ·rw [if_neg h', if_neg fun x => h' x.2]
 ·rw [getL_no h, if_neg fun x => h x.1, getL_no h]
theorem pas_all (hm : cs.all matB = true) (hm' : cs'.all matB = true) : (pasL b cs b' cs').all matB = true := by
 refine List.all_eq_true.2 fun x hx => ?_
 unfold pasL at hx
 obtain ⟨i, hi, rfl⟩ := List.mem_map.1 hx
 have hd : ∀ {l : List Int} {k : Nat}, l.all matB = true → matB (l.getD k 0) = true := fun {l k} hl => by
  rw [List.getD_eq_getElem?_getD]
  cases hk : l[k]? with
  | none => rfl
  | some x => exact List.all_eq_true.1 hl x (List.mem_of_getElem? hk)
 split
 ·exact hd hm'
 ·exact hd hm
theorem val_pas (h : validG ⟨b, cs⟩ = true) (hm' : cs'.all matB = true) : validG ⟨b, pasL b cs b' cs'⟩ = true := val_cells h pas_len (pas_all (val_mat h) hm')
end
section
variable {b b' : Bx} {cs cs' : List Int} {p q : Pt} {n s : Int}
theorem isZ_eq (h : b.isZ = true) : b = bx0 := by
 unfold Bx.isZ at h
 simp only [Bool.and_eq_true, decide_eq_true_eq] at h
 exact bx_ext h.1.1.1.1.1 h.1.1.1.1.2 h.1.1.1.2 h.1.1.2 h.1.2 h.2
theorem val_box (h : validG ⟨b, cs⟩ = true) : b = bx0 ∨ neB b.a b.b b.c b.d b.e b.f := by
 unfold validG at h
 simp only [Bool.and_eq_true, Bool.or_eq_true, decide_eq_true_eq] at h
 rcases h.1.1.1.2 with h1 | h1
 ·exact .inl (isZ_eq h1)
 ·refine .inr (Decidable.byContradiction fun hn => h1 ?_)
  exact if_neg hn
theorem val_in (h : validG ⟨b, cs⟩ = true) : b.in20 = true := by
 unfold validG at h
 simp only [Bool.and_eq_true] at h
 exact h.1.1.1.1
theorem val_vol (h : validG ⟨b, cs⟩ = true) : b.vol ≤ 2097152 := by
 unfold validG at h
 simp only [Bool.and_eq_true, decide_eq_true_eq] at h
 exact h.1.1.2
theorem new_getL0 : getL (newB b 0) (newL b 0) p = 0 := by
 unfold getL
 split
 ·unfold newL
  split
  ·rw [List.getD_eq_getElem?_getD, List.getElem?_replicate]
   split <;> rfl
  ·rfl
 ·rfl
theorem newB_has (h : newE b 0 = 0) : (newB b 0).has p = b.has p := by
 by_cases hv : b.vol = 0
 ·rw [new_b0 (.inr hv)]
  have h1 : ¬ b.has p = true := fun hh => by
   have := vol_pos' (ne_of_has hh)
   omega
  have h2 : ¬ bx0.has p = true := fun hh => by
   have := (ne_of_has hh).1
   exact absurd this (by decide)
  rw [Bool.not_eq_true] at h1 h2
  rw [h1, h2]
 ·rw [new_b1 h hv]
theorem crp_get (h : newE b' 0 = 0) : getL (newB b' 0) (crpL b cs b') p = if b'.has p = true then getL b cs p else 0 := by
 unfold crpL
 rw [get_pas (val_len (g := ⟨newB b' 0, newL b' 0⟩) (new_val h)), newB_has h, new_getL0]
 by_cases h1 : b'.has p = true
 ·rw [if_pos h1]
  by_cases h2 : b.has p = true
  ·rw [if_pos ⟨h1, h2⟩]
  ·rw [if_neg fun x => h2 x.2, getL_no h2]
 ·rw [if_neg h1, if_neg fun x => h1 x.1]
theorem new_of (h : validG ⟨b, cs⟩ = true) : newE b 0 = 0 := new_e0 ⟨val_in h, rfl⟩ (by have := val_vol h; omega)
theorem newB_of (h : validG ⟨b, cs⟩ = true) : newB b 0 = b := by
 by_cases hv : b.vol = 0
 ·rw [new_b0 (.inr hv)]
  rcases val_box h with h1 | h1
  ·exact h1.symm
  ·have : 0 < b.vol := vol_pos' h1
   omega
 ·exact new_b1 (new_of h) hv
theorem val_crp (h : newE b' 0 = 0) (hm : cs.all matB = true) : validG ⟨newB b' 0, crpL b cs b'⟩ = true := val_pas (new_val h) hm
theorem crp_own (h : validG ⟨b, cs⟩ = true) : crpL b cs b = cs := by
 have hE := new_of h
 refine getL_ext (b := b) ?_ (val_len h) fun p hp => ?_
 ·have := val_len (val_crp (b := b) (b' := b) (cs := cs) hE (val_mat h))
  rwa [newB_of h] at this
 ·have := crp_get (b := b) (cs := cs) (p := p) hE
  rw [newB_of h, if_pos hp] at this
  exact this
theorem crp_crp {c : Bx} (hb : newE b' 0 = 0) (hc : newE c 0 = 0) (hm : cs.all matB = true) (hco : coB b'.a b'.b b'.c b'.d b'.e b'.f c.a c.b c.c c.d c.e c.f) : crpL (newB b' 0) (crpL b cs b') c = crpL b cs c := by
 have hm2 : (crpL b cs b').all matB = true := val_mat (val_crp (b := b) hb hm)
 refine getL_ext (b := newB c 0) (val_len (val_crp hc hm2)) (val_len (val_crp hc hm)) fun p hp => ?_
 rw [newB_has hc] at hp
 rw [crp_get hc, crp_get hc, if_pos hp, if_pos hp, crp_get hb, if_pos]
 have h1 := has_def.1 hp
 have h2 := hco (ne_of_has hp)
 exact has_def.2 (by omega)
theorem shf_back {x y z : Int} : shfB (shfB b cs (x, y, z)) cs (x * (-1), y * (-1), z * (-1)) = b := by
 unfold shfB
 split
 ·rfl
 ·exact bx_ext (by show b.a + x + x * (-1) = b.a; omega) (by show b.b + y + y * (-1) = b.b; omega) (by show b.c + z + z * (-1) = b.c; omega) (by show b.d + x + x * (-1) = b.d; omega) (by show b.e + y + y * (-1) = b.e; omega) (by show b.f + z + z * (-1) = b.f; omega)
theorem shf_vol {x y z : Int} : (shfB b cs (x, y, z)).vol = b.vol := by
 unfold shfB
 split
 ·rfl
 ·show volB (b.a + x) (b.b + y) (b.c + z) (b.d + x) (b.e + y) (b.f + z) = volB b.a b.b b.c b.d b.e b.f
  unfold volB neB
  have e : (b.a + x < b.d + x ∧ b.b + y < b.e + y ∧ b.c + z < b.f + z) ↔ (b.a < b.d ∧ b.b < b.e ∧ b.c < b.f) := by omega
  rw [show b.d + x - (b.a + x) = b.d - b.a by omega, show b.e + y - (b.b + y) = b.e - b.b by omega, show b.f + z - (b.c + z) = b.f - b.c by omega]
  simp only [e]
theorem val_shf {x y z : Int} (h : validG ⟨b, cs⟩ = true) (hr : (shfB b cs (x, y, z)).in20 = true) : validG ⟨shfB b cs (x, y, z), cs⟩ = true := by
 have hl : b.vol = cs.length := val_len h
 have h0 := h
 unfold validG at h ⊢
 simp only [Bool.and_eq_true, Bool.or_eq_true, decide_eq_true_eq] at h ⊢
 refine ⟨⟨⟨⟨hr, ?_⟩, by rw [shf_vol]; exact h.1.1.2⟩, by rw [shf_vol]; exact h.1.2⟩, h.2⟩
 rcases h.1.1.1.2 with h1 | h1
 ·have e := isZ_eq h1
  have e' : b = bx0 := e
  refine .inl ?_
  unfold shfB
  have hz : cs.length = 0 := by
   have : bx0.vol = 0 := rfl
   rw [e', this] at hl
   omega
  rw [if_pos hz]
  exact h1
 ·exact .inr (by rw [shf_vol]; exact h1)
end
end Vc
end Go.Proofs.YtaacclebncplbaaGreatDoor
namespace Go.Proofs.YtaacclebncplbaaGreatDoor
namespace Vc
open Go Go.RowKit
set_option linter.unusedVariables false
theorem eqEl_C {a b c d e g h i j k : Int} {k0 k1 k2 k3 k4 : IntKind} (f : Int → Y) : eqEl [.int k0 a b, .int k1 c d, .int k2 e g, .int k3 h i, .int k4 j k] (enC (deC f)) f 0 := ⟨rfl, rfl, rfl, rfl, rfl, trivial⟩
def SDf : List Sk := [.int .i64 (-1048576) 3145724, PP21, PP21, .int .i64 0 255, .int .i64 0 255]
def clDf : Pth × TypeId × List Sk × Int := (.cell 4 0, 67, SDf, 2097152)
section
variable {b b' : Bx} {cs cs' : List Int} {p q : Pt} {x y z : Int}
theorem flt2 {u v W s t : Int} (h : u < v) (hs : 0 ≤ s ∧ s < W) (ht : 0 ≤ t) : u * W + s < v * W + t := by
 have h1 := Int.mul_le_mul_of_nonneg_right (show u + 1 ≤ v from h) (show (0 : Int) ≤ W by omega)
 rw [Int.add_mul, Int.one_mul] at h1
 omega
theorem fm_congr {α : Type} {f g : Nat → Option α} : ∀ {n : Nat}, (∀ i, i < n → f i = g i) → (List.range n).filterMap f = (List.range n).filterMap g
 | 0, _ => rfl
 | n + 1, h => by
  rw [List.range_succ, List.filterMap_append, List.filterMap_append, fm_congr (n := n) fun i hi => h i (by omega)]
  simp only [List.filterMap_cons, List.filterMap_nil, h n (by omega)]
theorem fm_snoc {α : Type} {f g : Nat → Option α} {k : Nat} (h1 : ∀ i, i < k → g i = f i) (h2 : f k = none) : ∀ {n : Nat}, k < n → (∀ i, k < i → i < n → f i = none ∧ g i = none) → (List.range n).filterMap g = (List.range n).filterMap f ++ (g k).toList
 | n + 1, hk, h3 => by
  rw [List.range_succ, List.filterMap_append, List.filterMap_append]
  by_cases e : n = k
  ·subst e
   rw [fm_congr h1]
   simp only [List.filterMap_cons, List.filterMap_nil, h2, List.append_nil]
   cases g n <;> rfl
  ·rw [fm_snoc (n := n) h1 h2 (by omega) fun i hi hn => h3 i hi (by omega)]
   have h4 := h3 n (by omega) (by omega)
   simp only [List.filterMap_cons, List.filterMap_nil, h4.1, h4.2, List.append_nil]
theorem difP_out {i : Nat} (h : ¬ b'.has (b.at i) = true) : difP b cs b' cs' i = none := by
 unfold difP
 rw [if_neg (by rw [Bool.and_eq_true]; exact fun h' => h h'.1)]
theorem dif_congr {S T : Pt → Bool} (hv : b.vol = cs.length) (he : ∀ p, (b.int b').has p = true → S p = T p) : difS b cs b' cs' S = difS b cs b' cs' T := fm_congr fun i hi => by
 by_cases hb : b'.has (b.at i) = true
 ·rw [he _ (int_has.2 ⟨at_has (by omega) (by omega), hb⟩)]
 ·rw [difP_out hb]
  split <;> split <;> rfl
theorem dif_none : difS b cs b' cs' (fun _ => false) = [] := by
 unfold difS
 rw [List.filterMap_eq_nil_iff]
 exact fun _ _ => rfl
theorem dif_all : difS b cs b' cs' (fun _ => true) = difL b cs b' cs' := fm_congr fun _ _ => rfl
theorem dif_le {S : Pt → Bool} : (difS b cs b' cs' S).length ≤ cs.length := by
 have := List.length_filterMap_le (fun (i : Nat) => if S (b.at i) then difP b cs b' cs' i else none) (List.range cs.length)
 rw [List.length_range] at this
 exact this
theorem lex_idx (hp : b.has p = true) (hq : b.has q = true) (h : p.2.2 < q.2.2 ∨ (p.2.2 = q.2.2 ∧ (p.2.1 < q.2.1 ∨ (p.2.1 = q.2.1 ∧ p.1 < q.1)))) : b.idx p < b.idx q := by
 show idB b.a b.b b.c b.d b.e b.f p.1 p.2.1 p.2.2 < idB b.a b.b b.c b.d b.e b.f q.1 q.2.1 q.2.2
 rw [id_in (has_iff.1 hp), id_in (has_iff.1 hq)]
 have dp := has_def.1 hp
 have dq := has_def.1 hq
 have hr : (p.2.2 - b.c) * (b.e - b.b) + (p.2.1 - b.b) < (q.2.2 - b.c) * (b.e - b.b) + (q.2.1 - b.b) ∨ ((p.2.2 - b.c) * (b.e - b.b) + (p.2.1 - b.b) = (q.2.2 - b.c) * (b.e - b.b) + (q.2.1 - b.b) ∧ p.1 < q.1) := by
  rcases h with h | ⟨h1, h | ⟨h2, h3⟩⟩
  ·exact .inl (flt2 (by omega) (by omega) (by omega))
  ·rw [h1]
   exact .inl (by omega)
  ·rw [h1, h2]
   exact .inr ⟨rfl, h3⟩
 rcases hr with h | ⟨h1, h2⟩
 ·exact flt2 h (by omega) (by omega)
 ·rw [h1]
  omega
def sX (x y z : Int) (p : Pt) : Bool := decide (p.2.2 < z) || (decide (p.2.2 = z) && (decide (p.2.1 < y) || (decide (p.2.1 = y) && decide (p.1 < x))))
theorem row_ok {j : Int} (hz : (b.int b').c ≤ z ∧ z < (b.int b').f) (hy : (b.int b').b ≤ y ∧ y < (b.int b').e) (hj : 0 ≤ j ∧ j < (b.int b').d - (b.int b').a) :
 (b.int b').has ((b.int b').a + j, y, z) = true ∧ (b.idx ((b.int b').a + j, y, z) = b.idx ((b.int b').a, y, z) + j ∧ b'.idx ((b.int b').a + j, y, z) = b'.idx ((b.int b').a, y, z) + j) ∧
 (0 ≤ b.idx ((b.int b').a, y, z) + j ∧ b.idx ((b.int b').a, y, z) + j < b.vol) ∧ (0 ≤ b'.idx ((b.int b').a, y, z) + j ∧ b'.idx ((b.int b').a, y, z) + j < b'.vol) := by
 have hP : (b.int b').has ((b.int b').a + j, y, z) = true := has_def.2 (by simp only; omega)
 have hP0 : (b.int b').has ((b.int b').a, y, z) = true := has_def.2 (by simp only; omega)
 have h0 := int_has.1 hP0
 have h1 := int_has.1 hP
 have e := idx_row h0.1 h1.1
 have e' := idx_row h0.2 h1.2
 have k := idx_ok h1.1
 have k' := idx_ok h1.2
 exact ⟨hP, ⟨e, e'⟩, by omega, by omega⟩
theorem dif_step (hv : b.vol = cs.length) (hp : (b.int b').has (x, y, z) = true) :
 difS b cs b' cs' (sX (x + 1) y z) = difS b cs b' cs' (sX x y z) ++ (if cs.getD (b.idx (x, y, z)).toNat 0 = cs'.getD (b'.idx (x, y, z)).toNat 0 then [] else [((x, y, z), cs.getD (b.idx (x, y, z)).toNat 0, cs'.getD (b'.idx (x, y, z)).toNat 0)]) := by
 obtain ⟨h1, h2⟩ := int_has.1 hp
 have hk := idx_ok h1
 have hk' := idx_ok h2
 have ek : b.at ((b.idx (x, y, z)).toNat : Nat) = (x, y, z) := by rw [Int.toNat_of_nonneg hk.1, at_idx h1]
 have hsn := fm_snoc (f := fun (i : Nat) => if sX x y z (b.at i) then difP b cs b' cs' i else none) (g := fun (i : Nat) => if sX (x + 1) y z (b.at i) then difP b cs b' cs' i else none) (k := (b.idx (x, y, z)).toNat) (n := cs.length)
  (fun i hi => by
    have hb : b.has (b.at i) = true := at_has (by omega) (by omega)
    have hid := idx_at (b := b) (i := (i : Int)) (by omega) (by omega)
    have e : sX (x + 1) y z (b.at i) = sX x y z (b.at i) := by
     unfold sX
     rw [Bool.eq_iff_iff]
     simp only [Bool.or_eq_true, Bool.and_eq_true, decide_eq_true_eq]
     have hl : ¬ (z < (b.at i).2.2 ∨ (z = (b.at i).2.2 ∧ (y < (b.at i).2.1 ∨ (y = (b.at i).2.1 ∧ x < (b.at i).1)))) := fun h => by
      have := lex_idx (q := b.at i) h1 hb h
      omega
     have ne : ¬ ((b.at i).1 = x ∧ (b.at i).2.1 = y ∧ (b.at i).2.2 = z) := fun h => by
      have e : b.at i = (x, y, z) := Prod.ext h.1 (Prod.ext h.2.1 h.2.2)
      rw [e] at hid
      omega
     omega
    show (if sX (x + 1) y z (b.at i) then _ else _) = (if sX x y z (b.at i) then _ else _)
    rw [e])
  (by
    show (if sX x y z (b.at ((b.idx (x, y, z)).toNat : Nat)) then _ else _) = _
    rw [ek, if_neg]
    unfold sX
    simp only [Bool.or_eq_true, Bool.and_eq_true, decide_eq_true_eq]
    omega)
  (by omega)
  (fun i hi hn => by
    have hb : b.has (b.at i) = true := at_has (by omega) (by omega)
    have hid := idx_at (b := b) (i := (i : Int)) (by omega) (by omega)
    have hl : ¬ ((b.at i).2.2 < z ∨ ((b.at i).2.2 = z ∧ ((b.at i).2.1 < y ∨ ((b.at i).2.1 = y ∧ (b.at i).1 < x)))) := fun h => by
     have := lex_idx (p := b.at i) hb h1 h
     omega
    have ne : b.at i ≠ (x, y, z) := fun e => by
     rw [e] at hid
     omega
    have ne' : ¬ ((b.at i).1 = x ∧ (b.at i).2.1 = y ∧ (b.at i).2.2 = z) := fun h => ne (Prod.ext h.1 (Prod.ext h.2.1 h.2.2))
    have e1 : ¬ sX x y z (b.at i) = true := by
     unfold sX
     simp only [Bool.or_eq_true, Bool.and_eq_true, decide_eq_true_eq]
     omega
    have e2 : ¬ sX (x + 1) y z (b.at i) = true := by
     unfold sX
     simp only [Bool.or_eq_true, Bool.and_eq_true, decide_eq_true_eq]
     omega
    exact ⟨if_neg e1, if_neg e2⟩)
 refine hsn.trans (congrArg _ ?_)
 show (if sX (x + 1) y z (b.at ((b.idx (x, y, z)).toNat : Nat)) then difP b cs b' cs' (b.idx (x, y, z)).toNat else none).toList = _
 rw [ek, if_pos (by
  unfold sX
  simp only [Bool.or_eq_true, Bool.and_eq_true, decide_eq_true_eq]
  exact .inr ⟨trivial, .inr ⟨trivial, show x < x + 1 by omega⟩⟩)]
 unfold difP
 rw [ek]
 have eg : getL b' cs' (x, y, z) = cs'.getD (b'.idx (x, y, z)).toNat 0 := if_pos hk'.1
 rw [eg, h2, Bool.true_and]
 by_cases e : cs.getD (b.idx (x, y, z)).toNat 0 = cs'.getD (b'.idx (x, y, z)).toNat 0
 ·rw [if_pos e, decide_eq_true e.symm]
  rfl
 ·rw [if_neg e, decide_eq_false (fun h => e h.symm)]
  rfl
end
end Vc
end Go.Proofs.YtaacclebncplbaaGreatDoor
namespace Go.Proofs.YtaacclebncplbaaGreatDoor
namespace Vc
open Go Go.RowKit
set_option linter.unusedVariables false
section
variable {b b' : Bx} {cs cs' : List Int} {p q : Pt}
theorem mat_getD : ∀ {l : List Int} {k : Nat}, l.all matB = true → matB (l.getD k 0) = true := fun {l k} hl => by
 rw [List.getD_eq_getElem?_getD]
 cases hk : l[k]? with
 | none => rfl
 | some x => exact List.all_eq_true.1 hl x (List.mem_of_getElem? hk)
theorem mat_getL (hl : cs.all matB = true) : matB (getL b cs p) = true := by
 unfold getL
 split
 ·exact mat_getD hl
 ·rfl
theorem difP_eq {i : Nat} : difP b cs b' cs' i = if b'.has (b.at i) = true ∧ getL b' cs' (b.at i) ≠ cs.getD i 0 then some (b.at i, cs.getD i 0, getL b' cs' (b.at i)) else none := by
 unfold difP
 by_cases h : b'.has (b.at i) = true ∧ getL b' cs' (b.at i) ≠ cs.getD i 0
 ·rw [if_pos h, if_pos (by rw [h.1, decide_eq_false h.2]; rfl)]
 ·rw [if_neg h, if_neg]
  rw [Bool.and_eq_true]
  exact fun x => h ⟨x.1, of_decide_eq_false (by simpa using x.2)⟩
theorem wr_difN (hv : b.vol = cs.length) : ∀ {n : Nat}, n ≤ cs.length → ∀ j : Nat, j < cs.length →
 (wrL b cs ((List.range n).filterMap (difP b cs b' cs'))).getD j 0 = if j < n ∧ b'.has (b.at j) = true then getL b' cs' (b.at j) else cs.getD j 0
 | 0, _, j, hj => by
  rw [if_neg (by omega)]
  rfl
 | n + 1, hn, j, hj => by
  have ih := wr_difN hv (n := n) (by omega) j hj
  rw [List.range_succ, List.filterMap_append]
  have hat : b.idx (b.at n) = n := idx_at (by omega) (by omega)
  by_cases hc : b'.has (b.at n) = true ∧ getL b' cs' (b.at n) ≠ cs.getD n 0
  ·have e : [n].filterMap (difP b cs b' cs') = [(b.at n, cs.getD n 0, getL b' cs' (b.at n))] := by
    simp only [List.filterMap_cons, List.filterMap_nil, difP_eq, if_pos hc]
   rw [e, wr_snoc]
   unfold setL
   rw [if_pos (by show 0 ≤ b.idx (b.at n); omega), getD_set, wr_len]
   show (if (b.idx (b.at n)).toNat = j ∧ _ then _ else _) = _
   rw [hat]
   by_cases ej : n = j
   ·subst ej
    rw [if_pos ⟨by omega, by omega⟩, if_pos ⟨by omega, hc.1⟩]
   ·rw [if_neg (by omega), ih]
    by_cases hl : j < n
    ·simp only [hl, show j < n + 1 by omega, true_and]
    ·simp only [hl, show ¬ j < n + 1 by omega, false_and, if_false]
  ·have e : [n].filterMap (difP b cs b' cs') = [] := by
    simp only [List.filterMap_cons, List.filterMap_nil, difP_eq, if_neg hc]
   rw [e, List.append_nil, ih]
   by_cases ej : n = j
   ·subst ej
    rw [if_neg (by omega)]
    split
    ·rename_i h
     exact (Decidable.not_not.1 fun hne => hc ⟨h.2, fun x => hne x.symm⟩)
    ·rfl
   ·by_cases hl : j < n
    ·simp only [hl, show j < n + 1 by omega, true_and]
    ·simp only [hl, show ¬ j < n + 1 by omega, false_and, if_false]
theorem wr_dif (hv : b.vol = cs.length) : wrL b cs (difL b cs b' cs') = pasL b cs b' cs' := by
 refine ext_getD 0 (by rw [wr_len, pas_len]) fun j hj => ?_
 rw [wr_len] at hj
 rw [pas_getD hj]
 refine (wr_difN hv (Nat.le_refl _) j hj).trans ?_
 simp only [hj, true_and]
theorem dif_pas : difL b (pasL b cs b' cs') b' cs' = [] := by
 unfold difL
 rw [List.filterMap_eq_nil_iff]
 intro i hi
 rw [List.mem_range, pas_len] at hi
 rw [difP_eq, if_neg]
 rw [pas_getD hi]
 intro h
 rw [if_pos h.1] at h
 exact h.2 rfl
theorem pas_pas : pasL b (pasL b cs b' cs') b' cs' = pasL b cs b' cs' := by
 refine ext_getD 0 (by rw [pas_len]) fun j hj => ?_
 rw [pas_len, pas_len] at hj
 rw [pas_getD (by rw [pas_len]; exact hj), pas_getD hj]
 split <;> rfl
theorem dif_chg (hb : validG ⟨b, cs⟩ = true) (hm : cs'.all matB = true) {c : Ch} (h : c ∈ difL b cs b' cs') : chgB c := by
 obtain ⟨i, hi, e⟩ := List.mem_filterMap.1 h
 rw [List.mem_range] at hi
 rw [difP_eq] at e
 have hv : b.vol = cs.length := val_len hb
 have hr := bx_in (val_in hb)
 split at e
 ·cases e
  have := has_def.1 (at_has (b := b) (i := i) (by omega) (by omega))
  exact ⟨by show _ ≤ (b.at i).1 ∧ (b.at i).1 ≤ _; omega, by show _ ≤ (b.at i).2.1 ∧ (b.at i).2.1 ≤ _; omega, by show _ ≤ (b.at i).2.2 ∧ (b.at i).2.2 ≤ _; omega, mat_getL hm⟩
 ·cases e
theorem lst_dif : lstX deC (rowG enC (difL b cs b' cs')) = difL b cs b' cs' := lstX_rowG (enc := enC) (dec := deC) (fun _ => rfl) _
theorem dif_chgs (hb : validG ⟨b, cs⟩ = true) (hm : cs'.all matB = true) : ∀ k : Nat, (k : Int) < (rowG enC (difL b cs b' cs')).i → chgB (deC ((rowG enC (difL b cs b' cs')).r k)) := fun k hk => by
 have := lx_mem (dec := deC) (l := rowG enC (difL b cs b' cs')) (k := k) (by omega) hk
 rw [lst_dif] at this
 exact dif_chg hb hm this
end
end Vc
end Go.Proofs.YtaacclebncplbaaGreatDoor
