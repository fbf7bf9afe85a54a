/- Layer 33, plain: what the laws need. -/
import Derived.Test.YtelbilnnmmbmdaaDoorC33S
namespace Go.Proofs.YtelbilnnmmbmdaaDoor
namespace Vc
open Go Go.RowKit
set_option linter.unusedVariables false
theorem sme_refl {v : X} : smeX v v = true := by
 unfold smeX smeL
 simp
theorem sme_symm {v w : X} : smeX v w = smeX w v := by
 unfold smeX
 by_cases h : v.i = w.i
 ·rw [h]
  congr 1
  rw [Bool.eq_iff_iff, smeL_iff, smeL_iff]
  exact forall_congr' fun k => imp_congr_right fun hk => ⟨fun ⟨a, b, c, d⟩ => ⟨a.symm, b.symm, c.symm, d.symm⟩, fun ⟨a, b, c, d⟩ => ⟨a.symm, b.symm, c.symm, d.symm⟩⟩
 ·rw [decide_eq_false h, decide_eq_false fun hc => h hc.symm]
  rfl
theorem sme_row {n : Int} {F : Int → Int → Int} {v : X} {m : Nat} (hm : (m : Int) = n) (h : v.i = n) (he : eqR m F (lvX v)) : smeX (rowF n F) v = true := by
 refine (sme_iff (v := rowF n F) (by show 0 ≤ n; omega)).2 ⟨h.symm, fun k hk => ?_⟩
 have hk : (k : Int) < n := hk
 exact ⟨he k 0 (by omega) (by omega) (by decide) (by decide), he k 1 (by omega) (by omega) (by decide) (by decide), he k 2 (by omega) (by omega) (by decide) (by decide), he k 3 (by omega) (by omega) (by decide) (by decide)⟩
theorem les_of {v w : X} {m : Nat} (hm : (m : Int) = v.i) (h : v.i = w.i) (he : leR m (lvX v) (lvX w)) : lesX v w = true := by
 refine (les_iff (by omega)).2 ⟨h, fun k hk => ?_⟩
 exact ⟨he k 0 (by omega) (by omega) (by decide) (by decide), he k 1 (by omega) (by omega) (by decide) (by decide), he k 2 (by omega) (by omega) (by decide) (by decide), he k 3 (by omega) (by omega) (by decide) (by decide)⟩
theorem les_to {v w : X} {m : Nat} (hm : (m : Int) = v.i) (h : lesX v w = true) : leR m (lvX v) (lvX w) := fun i c a b d e => by
 have := ((les_iff (by omega)).1 h).2 i.toNat (by omega)
 rw [Int.toNat_of_nonneg a] at this
 have hc : c = 0 ∨ c = 1 ∨ c = 2 ∨ c = 3 := by omega
 rcases hc with rfl | rfl | rfl | rfl
 ·exact this.1
 ·exact this.2.1
 ·exact this.2.2.1
 ·exact this.2.2.2
theorem lst_lv {v : X} {m : Nat} : lvR m (lstF v) := fun i c _ _ _ _ => by
 show 0 ≤ lstF v i c ∧ lstF v i c ≤ 15
 unfold lstF
 split <;> omega
section
variable {b : Bx} {cs cs' : List Int} {t k k' : X}
theorem ful_grow (hv : b.vol = cs.length) (ht : (chkT t).2 = 0) (hl : cs'.length = cs.length) (hf : ∀ i : Int, fadX t (cs'.getD i.toNat 0) ≤ fadX t (cs.getD i.toNat 0)) (he : ∀ i c : Int, 0 ≤ c → c < 3 → emtX t (cs.getD i.toNat 0) c ≤ emtX t (cs'.getD i.toNat 0) c) (hk : ∀ j, knwX k j = true → knwX k' j = true) :
 leR cs.length (fulF b cs t k) (fulF b cs' t k') := by
 have h := lfp_mono (n := cs.length) (stp_ok (k := k) hv ht) (by rw [← hl]; exact stp_ok (b := b) (cs := cs') (k := k') (by omega) ht) fun F hF i c a d e f => stp_grow (b := b) (L := F) ht e f (hf i) (fun h3 => he i c e (by omega)) hk
 unfold fulF
 rw [hl]
 exact h
end
theorem set_get {l : X} {i j : Int} {e : X} (h0 : 0 ≤ i) (h1 : i < l.i) (j0 : 0 ≤ j) : (lstX deI (mkX (rwSet l.r i 0 e) l.i)).getD j.toNat 0 = if j = i then e.i else (lstX deI l).getD j.toNat 0 := by
 rw [deI_set h0, getD_set]
 have el : (lstX deI (mkX l.r l.i)) = lstX deI l := lstX_eta _ _
 rw [el, lstX_len]
 by_cases h : j = i
 ·rw [if_pos h, if_pos (by omega)]
 ·rw [if_neg h, if_neg (by omega)]
theorem ok_set {a b c d e f : Int} {l t k x : X} {i : Int} (gl : 0 ≤ l.i) (h : okC (grX (xI a) (xI b) (xI c) (xI d) (xI e) (xI f) l) t k = true) (h0 : 0 ≤ i) (h1 : i < l.i) (hx : 0 ≤ x.i ∧ x.i < 256) : okC (grX (xI a) (xI b) (xI c) (xI d) (xI e) (xI f) (mkX (rwSet l.r i 0 x) l.i)) t k = true := by
 obtain ⟨gv, ht, hk⟩ := okC_iff.1 h
 obtain ⟨k0, k1, k2, k3, k4⟩ := (v700 gl).1 gv
 have eq : lstX deI (mkX (rwSet l.r i 0 x) l.i) = (lstX deI l).set i.toNat x.i := by
  rw [deI_set h0, lstX_eta]
 refine okC_iff.2 ⟨(v700 (l := mkX (rwSet l.r i 0 x) l.i) gl).2 ⟨k0, k1, k2, k3, ?_⟩, ht, ?_⟩
 ·rw [eq, List.all_eq_true]
  intro y hy
  rcases List.mem_or_eq_of_mem_set hy with hy | hy
  ·exact List.all_eq_true.1 k4 y hy
  ·rw [hy]; exact matB_iff.2 hx
 ·show k.i = 0 ∨ k.i = ((lstX deI (mkX (rwSet l.r i 0 x) l.i)).length : Nat)
  rw [eq, List.length_set]
  exact hk
theorem knw_set {k : X} {i : Int} (j : Int) (h : knwX k j = true) : knwX (mkX (rwSet k.r i 0 (xB true)) k.i) j = true := by
 have h : (decide (k.i = 0) || (k.r j 0).b) = true := h
 show (decide (k.i = 0) || (if j = i ∧ (0 : Int) = 0 then (xB true).y else k.r j 0).b) = true
 by_cases hj : j = i
 ·rw [if_pos ⟨hj, rfl⟩, Bool.or_eq_true]
  exact .inr rfl
 ·rw [if_neg fun hc => hj hc.1]
  exact h
def mirD (al : Bool) (e : Int) : Int := if al = true then (if e = 0 then 1 else if e = 1 then 0 else e) else (if e = 2 then 3 else if e = 3 then 2 else e)
theorem mirD_rng {al : Bool} {e : Int} (h0 : 0 ≤ e) (h1 : e < 6) : 0 ≤ mirD al e ∧ mirD al e < 6 := by
 cases al <;> rcases dir6 h0 h1 with rfl | rfl | rfl | rfl | rfl | rfl <;> decide
theorem mirD_5 {al : Bool} {e : Int} (h0 : 0 ≤ e) (h1 : e < 6) : mirD al e = 5 ↔ e = 5 := by
 cases al <;> rcases dir6 h0 h1 with rfl | rfl | rfl | rfl | rfl | rfl <;> decide
theorem mirD_st {al : Bool} {e : Int} (h0 : 0 ≤ e) (h1 : e < 6) : (if al = true then stX (mirD al e) = - stX e ∧ stY (mirD al e) = stY e else stX (mirD al e) = stX e ∧ stY (mirD al e) = - stY e) ∧ stZ (mirD al e) = stZ e := by
 cases al <;> rcases dir6 h0 h1 with rfl | rfl | rfl | rfl | rfl | rfl <;> decide
section
variable {b : Bx} {al : Bool} {p : Pt} {i j c e : Int}
theorem mir_has : b.has (mirP b al p) = true ↔ b.has p = true := by
 rw [has_def, has_def]
 unfold mirP
 split <;> simp only <;> omega
theorem mir_inv : mirP b al (mirP b al p) = p := by
 cases al
 ·exact Prod.ext rfl (Prod.ext (by show b.b + b.e - 1 - (b.b + b.e - 1 - p.2.1) = p.2.1; omega) rfl)
 ·exact Prod.ext (by show b.a + b.d - 1 - (b.a + b.d - 1 - p.1) = p.1; omega) rfl
theorem mir_st (h0 : 0 ≤ e) (h1 : e < 6) : stpP (mirP b al p) (mirD al e) = mirP b al (stpP p e) := by
 have h := mirD_st (al := al) h0 h1
 cases al
 ·simp only [Bool.false_eq_true, if_false] at h
  refine Prod.ext ?_ (Prod.ext ?_ ?_)
  ·show p.1 + stX (mirD false e) = p.1 + stX e
   omega
  ·show b.b + b.e - 1 - p.2.1 + stY (mirD false e) = b.b + b.e - 1 - (p.2.1 + stY e)
   omega
  ·show p.2.2 + stZ (mirD false e) = p.2.2 + stZ e
   omega
 ·simp only [if_true] at h
  refine Prod.ext ?_ (Prod.ext ?_ ?_)
  ·show b.a + b.d - 1 - p.1 + stX (mirD true e) = b.a + b.d - 1 - (p.1 + stX e)
   omega
  ·show p.2.1 + stY (mirD true e) = p.2.1 + stY e
   omega
  ·show p.2.2 + stZ (mirD true e) = p.2.2 + stZ e
   omega
theorem mir_z : (mirP b al p).2.2 = p.2.2 := by
 cases al <;> rfl
theorem mir_ok (h0 : 0 ≤ i) (h1 : i < b.vol) : (0 ≤ mirI b al i ∧ mirI b al i < b.vol) ∧ mirI b al (mirI b al i) = i ∧ b.at (mirI b al i) = mirP b al (b.at i) := by
 have hh := (mir_has (al := al)).2 (at_has (b := b) h0 h1)
 have ha := at_idx hh
 refine ⟨idx_ok hh, ?_, ha⟩
 show b.idx (mirP b al (b.at (b.idx (mirP b al (b.at i))))) = i
 rw [ha, mir_inv]
 exact idx_at h0 h1
variable {cs cs' : List Int} {t k : X} {L L' : Lv}
theorem stp_mir (hv : b.vol = cs.length) (ht : (chkT t).2 = 0) (hk : k.i = 0) (hc : ∀ i : Int, 0 ≤ i → i < cs.length → cs'.getD (mirI b al i).toNat 0 = cs.getD i.toNat 0) (hL : ∀ i : Int, 0 ≤ i → i < cs.length → L i c ≤ L' (mirI b al i) c) (h0 : 0 ≤ i) (h1 : i < cs.length) (c0 : 0 ≤ c) (c1 : c < 4) :
 stpF b cs t k L i c ≤ stpF b cs' t k L' (mirI b al i) c := by
 have hkn : ∀ j, knwX k j = true := fun j => by
  unfold knwX
  rw [decide_eq_true hk]; rfl
 obtain ⟨m0, m1, m2⟩ := mir_ok (b := b) (al := al) h0 (by omega)
 refine stp_least (stp_nn ht c0 c1) (fun _ => Int.le_trans (Int.le_of_eq ?_) (own_le_stp (hkn _))) fun d hd _ hn => ?_
 ·unfold ownB topB
  rw [m2, mir_z, hc i h0 h1]
 ·obtain ⟨hr, hh, _⟩ := ngb_ix hv hn
  obtain ⟨q0, q1⟩ := mirD_rng (al := al) (e := d) (by omega) (by omega)
  have es := mir_st (b := b) (al := al) (p := b.at i) (e := d) (by omega) (by omega)
  have hn' : ngbB b k (b.at (mirI b al i)) (mirD al d) = true := by
   unfold ngbB
   rw [m2, es, mir_has.2 hh, hkn]; rfl
  have ei : b.idx (stpP (b.at (mirI b al i)) (mirD al d)) = mirI b al (b.idx (stpP (b.at i) d)) := by
   rw [m2, es]
   unfold mirI
   rw [at_idx hh]
  have := pss_le_stp (L := L') (t := t) (cs := cs') (c := c) q0 q1 (hkn _) hn'
  rw [hc i h0 h1, ei, pss_dir (e := (d : Int)) (mirD_5 (by omega) (by omega))] at this
  exact Int.le_trans (pss_mono (fad_rng ht).1 (hL _ hr.1 hr.2)) this
theorem ful_mir1 (hv : b.vol = cs.length) (hl : cs'.length = cs.length) (ht : (chkT t).2 = 0) (hk : k.i = 0) (hc : ∀ i : Int, 0 ≤ i → i < cs.length → cs'.getD (mirI b al i).toNat 0 = cs.getD i.toNat 0) (h0 : 0 ≤ i) (h1 : i < cs.length) (c0 : 0 ≤ c) (c1 : c < 4) :
 fulF b cs t k i c ≤ fulF b cs' t k (mirI b al i) c := by
 have hS := stp_ok (b := b) (cs := cs') (k := k) (t := t) (by omega) ht
 have hF := lfp_lv hS
 have hX := lfp_fix hS
 have hm : ∀ j : Int, 0 ≤ j → j < cs.length → 0 ≤ mirI b al j ∧ mirI b al j < cs'.length := fun j a d => by
  have := (mir_ok (b := b) (al := al) a (by omega)).1
  omega
 refine lfp_least (stp_ok (k := k) hv ht) (G := fun i c => fulF b cs' t k (mirI b al i) c) (fun j q a d e f => hF _ q (hm j a d).1 (hm j a d).2 e f) (fun j q a d e f => ?_) i c h0 h1 c0 c1
 exact Int.le_trans (stp_mir (L' := fulF b cs' t k) hv ht hk hc (fun _ _ _ => Int.le_refl _) a d e f) (Int.le_of_eq (hX _ q (hm j a d).1 (hm j a d).2 e f))
theorem ful_mir (hv : b.vol = cs.length) (hl : cs'.length = cs.length) (ht : (chkT t).2 = 0) (hk : k.i = 0) (hc : ∀ i : Int, 0 ≤ i → i < cs.length → cs'.getD (mirI b al i).toNat 0 = cs.getD i.toNat 0) (h0 : 0 ≤ i) (h1 : i < cs.length) (c0 : 0 ≤ c) (c1 : c < 4) :
 fulF b cs t k i c = fulF b cs' t k (mirI b al i) c := by
 refine Int.le_antisymm (ful_mir1 hv hl ht hk hc h0 h1 c0 c1) ?_
 obtain ⟨m0, m1, m2⟩ := mir_ok (b := b) (al := al) h0 (by omega)
 have := ful_mir1 (b := b) (al := al) (cs := cs') (cs' := cs) (t := t) (k := k) (i := mirI b al i) (c := c) (by omega) (by omega) ht hk (fun j a d => by
  obtain ⟨n0, n1, n2⟩ := mir_ok (b := b) (al := al) (i := j) a (by omega)
  have := hc (mirI b al j) n0.1 (by omega)
  rw [n1] at this
  exact this.symm) m0.1 (by omega) c0 c1
 rw [m1] at this
 exact this
end
theorem wr64 {n : Int} (h : -9223372036854775808 ≤ n ∧ n ≤ 9223372036854775807) : IntKind.wrap Go.IntKind.i64 n = n := wrap_fits (k := .i64) h
end Vc
end Go.Proofs.YtelbilnnmmbmdaaDoor
