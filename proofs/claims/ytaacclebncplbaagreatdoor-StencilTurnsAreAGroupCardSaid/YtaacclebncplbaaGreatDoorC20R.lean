/- Layer 20, plain: the turns of a pattern are a group; the least pattern is that of every turn. -/
import Derived.Test.YtaacclebncplbaaGreatDoorC20W
namespace Go.Proofs.YtaacclebncplbaaGreatDoor
namespace Vc
open Go Go.RowKit
set_option linter.unusedVariables false
section
variable {b : Bx} {cs : List Int} {p q v : Pt} {k s t n : Int} {g h : Gr}
theorem getL_sh : getL (shP b v) cs (adP q v) = getL b cs q := by
 by_cases hq : b.has q = true
 ·have h' : (shP b v).has (adP q v) = true := by rw [sh_has, sb_ad]; exact hq
  rw [getL_has h', getL_has hq, idx_sh hq]
 ·rw [getL_no hq, getL_no fun h => hq (by rw [sh_has, sb_ad] at h; exact h)]
theorem tnB_0 {m : Nat} (hm : m < 3) (x y z : Int) : tnB 0 m x y z = pick x y z m := by
 have h : ∀ k, k < 3 → tNg 0 k = false ∧ tAx 0 k = k := by decide
 have h0 : inT 0 := by unfold inT; omega
 unfold tnB
 rw [if_pos h0]
 show (if tNg 0 m = true then 0 - pick x y z (tAx 0 m) else pick x y z (tAx 0 m)) = _
 rw [(h m hm).1, (h m hm).2]
 rfl
theorem tnP_iv (hk : inT k) : tnP (ivB k) (tnP k v) = v := by
 have e : ∀ m, m < 3 → tnB (ivB k) m (tnB k 0 v.1 v.2.1 v.2.2) (tnB k 1 v.1 v.2.1 v.2.2) (tnB k 2 v.1 v.2.1 v.2.2) = pick v.1 v.2.1 v.2.2 m := fun m hm => by
  rw [← tn_cm (iv_inT hk) hk hm, (unit_ok hk).2.2.2, tnB_0 hm]
 exact Prod.ext (e 0 (by decide)) (Prod.ext (e 1 (by decide)) (e 2 (by decide)))
theorem turL_sh (hk : inT k) (hn : neX b) (hv : b.vol = cs.length) : turL k (shP b v) cs = turL k b cs := by
 have hv' : (shP b v).vol = cs.length := by rw [sh_vol]; exact hv
 refine ext_getD 0 (by rw [turL_len, turL_len]) fun j hj => ?_
 rw [turL_len] at hj
 have h1 : (j : Int) < (turB k b).vol := by rw [tur_vol]; omega
 have h2 : (j : Int) < (turB k (shP b v)).vol := by rw [tur_vol]; omega
 rw [← getL_at (n := 0) (b := turB k (shP b v)) rfl h2, ← getL_at (n := 0) (b := turB k b) rfl h1, tur_get' hk hv', tur_get' hk hv, tur_ad hk hn, at_sh (by omega) h1, tcP_ad (iv_inT hk), tnP_iv hk]
 exact getL_sh
theorem val_cases (hg : validG g = true) : g = ⟨bx0, []⟩ ∨ (neX g.bx ∧ g.cs.length ≠ 0) := by
 have hl := val_len hg
 obtain ⟨b, cs⟩ := g
 have hl : b.vol = cs.length := hl
 rcases val_box hg with h | h
 ·left
  subst h
  have h0 : cs.length = 0 := by
   have : bx0.vol = 0 := rfl
   omega
  rw [List.length_eq_zero_iff.1 h0]
 ·right
  have := vol_pos' (b := b) h
  exact ⟨h, by show cs.length ≠ 0; omega⟩
theorem shf_sh (h : cs.length ≠ 0) : shfB b cs v = shP b v := if_neg h
theorem paG_ne (hn : g.cs.length ≠ 0) : paG k g = ⟨shP (turB k g.bx) (0 - (turB k g.bx).a, 0 - (turB k g.bx).b, 0 - (turB k g.bx).c), turL k g.bx g.cs⟩ := by
 unfold paG ptB
 rw [shf_sh hn]
theorem paG_0 (hk : inT k) : paG k ⟨bx0, []⟩ = ⟨bx0, []⟩ := by
 have e : turL k bx0 [] = [] := List.length_eq_zero_iff.1 turL_len
 unfold paG ptB
 rw [e]
 show (⟨shfB (turB k bx0) [] _, []⟩ : Gr) = _
 rw [tur_z hk]
 rfl
theorem paG_sh (hk : inT k) (hn : neX b) (hv : b.vol = cs.length) (h0 : cs.length ≠ 0) : paG k ⟨shP b v, cs⟩ = paG k ⟨b, cs⟩ := by
 rw [paG_ne (g := ⟨shP b v, cs⟩) h0, paG_ne (g := ⟨b, cs⟩) h0]
 show (⟨shP (turB k (shP b v)) _, turL k (shP b v) cs⟩ : Gr) = ⟨shP (turB k b) _, turL k b cs⟩
 rw [turL_sh hk hn hv, tur_ad hk hn]
 congr 1
 unfold shP
 refine bx_ext ?_ ?_ ?_ ?_ ?_ ?_ <;> simp only <;> omega
theorem paG_tur (hk : inT k) (ht : inT t) (hg : validG ⟨b, cs⟩ = true) : paG k ⟨turB t b, turL t b cs⟩ = paG (cmB k t) ⟨b, cs⟩ := by
 unfold paG ptB
 show (⟨shfB (turB k (turB t b)) (turL t b cs) _, turL k (turB t b) (turL t b cs)⟩ : Gr) = ⟨shfB (turB (cmB k t) b) cs _, turL (cmB k t) b cs⟩
 rw [tur_box hk ht hg, tur_tur hk ht hg]
 congr 1
 exact shf_len turL_len
theorem paG_shf (hk : inT k) (ht : inT t) (hg : validG ⟨b, cs⟩ = true) : paG k ⟨shfB (turB t b) (turL t b cs) v, turL t b cs⟩ = paG (cmB k t) ⟨b, cs⟩ := by
 rw [← paG_tur hk ht hg]
 rcases val_cases hg with h | h
 ·have e1 := (Gr.mk.inj h).1
  have e2 := (Gr.mk.inj h).2
  subst e1 e2
  have e : turL t bx0 [] = [] := List.length_eq_zero_iff.1 turL_len
  rw [e]
  rfl
 ·have hl : (turL t b cs).length ≠ 0 := by rw [turL_len]; exact h.2
  rw [shf_sh hl]
  exact paG_sh hk (ne_tur ht h.1) (val_len (val_tur ht hg)) hl
theorem paG_pa (hk : inT k) (ht : inT t) (hg : validG g = true) : paG k (paG t g) = paG (cmB k t) g := by
 obtain ⟨b, cs⟩ := g
 have e : ptB t b cs = shfB (turB t b) (turL t b cs) (0 - (turB t b).a, 0 - (turB t b).b, 0 - (turB t b).c) := shf_len turL_len.symm
 show paG k ⟨ptB t b cs, turL t b cs⟩ = _
 rw [e]
 exact paG_shf hk ht hg
theorem eqG_gr : eqG g.bx g.cs h.bx h.cs = true ↔ g = h := by
 obtain ⟨⟨a, b, c, d, e, f⟩, l⟩ := g
 obtain ⟨⟨a', b', c', d', e', f'⟩, l'⟩ := h
 unfold eqG
 simp only [Bool.and_eq_true, decide_eq_true_eq, Gr.mk.injEq, Bx.mk.injEq]
 exact ⟨fun h => ⟨⟨h.1.1.1.1.1.1, h.1.1.1.1.1.2, h.1.1.1.1.2, h.1.1.1.2, h.1.1.2, h.1.2⟩, h.2⟩, fun h => ⟨⟨⟨⟨⟨⟨h.1.1, h.1.2.1⟩, h.1.2.2.1⟩, h.1.2.2.2.1⟩, h.1.2.2.2.2.1⟩, h.1.2.2.2.2.2⟩, h.2⟩⟩
theorem od_iff (h1 : atO g.bx) (h2 : atO h.bx) : odB g.bx g.cs h.bx h.cs = 0 ↔ g = h := by
 rw [← eqG_gr, eq_od h1 h2, decide_eq_true_eq]
theorem paG_O (hg : validG g = true) : atO (paG k g).bx := pt_O hg
theorem tnO_iff (hg : validG g = true) (k : Nat) : tnO g.bx g.cs k = 0 ↔ paG k g = paG 0 g :=
 od_iff (g := paG k g) (h := paG 0 g) (paG_O hg) (paG_O hg)
def inS (g : Gr) (k : Int) : Prop := inT k ∧ paG k g = paG 0 g
theorem tn_mem (hg : validG g = true) (x : Int) : x ∈ tnL g.bx g.cs 48 ↔ inS g x := by
 unfold tnL
 rw [List.mem_filterMap]
 constructor
 ·rintro ⟨k, hk, e⟩
  have hk := List.mem_range.1 hk
  split at e
  ·rename_i h
   rw [← Option.some.inj e]
   exact ⟨by unfold inT; omega, (tnO_iff hg k).1 h⟩
  ·cases e
 ·rintro ⟨h1, h2⟩
  have e : ((x.toNat : Nat) : Int) = x := by unfold inT at h1; omega
  refine ⟨x.toNat, List.mem_range.2 (inT_nat h1), ?_⟩
  rw [if_pos ((tnO_iff hg _).2 (by rw [e]; exact h2)), e]
theorem inT_0 : inT 0 := by unfold inT; omega
theorem inS_0 : inS g 0 := ⟨inT_0, rfl⟩
theorem inS_cm (hg : validG g = true) (hs : inS g s) (ht : inS g t) : inS g (cmB s t) := by
 refine ⟨cm_inT hs.1 ht.1, ?_⟩
 rw [← paG_pa hs.1 ht.1 hg, ht.2, paG_pa hs.1 inT_0 hg, (unit_ok hs.1).1, hs.2]
theorem inS_iv (hg : validG g = true) (hs : inS g s) : inS g (ivB s) := by
 have hi := iv_inT hs.1
 refine ⟨hi, ?_⟩
 have e1 : paG (ivB s) (paG 0 g) = paG (ivB s) g := by rw [paG_pa hi inT_0 hg, (unit_ok hi).1]
 rw [← e1, ← hs.2, paG_pa hi hs.1 hg, (unit_ok hs.1).2.2.2]
 exact hs.2.symm
theorem tn_head (hg : validG g = true) : ∃ r, tnL g.bx g.cs 48 = 0 :: r := by
 unfold tnL
 rw [List.range_succ_eq_map, List.filterMap_cons, if_pos ((tnO_iff hg 0).2 rfl)]
 exact ⟨_, rfl⟩
theorem eqP_iff {k j : Nat} : eqP g k j = true ↔ paG k g = paG j g := eqG_gr
theorem frB_0 {k : Nat} : frB g k 0 = true := rfl
theorem frB_s {k j : Nat} : frB g k (j + 1) = (frB g k j && !eqP g k j) := by
 unfold frB
 rw [List.range_succ, List.all_append]
 simp
theorem cnt_or {α : Type} {p q : α → Bool} : ∀ (l : List α), (∀ x ∈ l, ¬ (p x = true ∧ q x = true)) → l.countP (fun x => p x || q x) = l.countP p + l.countP q
 | [], _ => rfl
 | a :: l, h => by
  have ih := cnt_or l fun x hx => h x (List.mem_cons_of_mem _ hx)
  have ha := h a List.mem_cons_self
  simp only [List.countP_cons, ih]
  cases hp : p a <;> cases hq : q a <;> simp_all <;> omega
theorem cnt_congr {α : Type} {p q : α → Bool} (l : List α) (h : ∀ x ∈ l, p x = q x) : l.countP p = l.countP q :=
 List.countP_congr fun x hx => by rw [h x hx]
theorem perm_tab : ((List.range 48).all fun n => ((List.range 48).map fun k => cmN n k).isPerm (List.range 48)) = true := by decide +kernel
theorem class_cnt (hg : validG g = true) {n : Nat} (hn : n < 48) : (List.range 48).countP (fun k => eqP g k n) = (List.range 48).countP (fun k => eqP g k 0) := by
 have hp := List.isPerm_iff.1 (List.all_eq_true.1 perm_tab n (List.mem_range.2 hn))
 rw [← hp.countP_eq, List.countP_map]
 refine cnt_congr _ fun k hk => ?_
 have hk := List.mem_range.1 hk
 have tn : inT (n : Int) := by unfold inT; omega
 have tk : inT (k : Int) := by unfold inT; omega
 have e : ((cmN n k : Nat) : Int) = cmB n k := by
  rw [cm_in tn tk]
  rfl
 show eqP g (cmN n k) n = eqP g k 0
 rw [Bool.eq_iff_iff, eqP_iff, eqP_iff, e]
 constructor
 ·intro h
  have h2 := congrArg (paG (ivB n)) h
  rw [paG_pa (iv_inT tn) (cm_inT tn tk) hg, paG_pa (iv_inT tn) tn hg, ← cm_assoc (iv_inT tn) tn tk, (unit_ok tn).2.2.2, (unit_ok tk).2.1] at h2
  exact h2
 ·intro h
  have h : paG k g = paG 0 g := h
  rw [← paG_pa tn tk hg, h, paG_pa tn inT_0 hg, (unit_ok tn).1]
theorem any_s {k n : Nat} : ((List.range (n + 1)).any fun j => eqP g k j) = (((List.range n).any fun j => eqP g k j) || eqP g k n) := by
 rw [List.range_succ, List.any_append]
 simp
theorem orb (hg : validG g = true) : ∀ n, n ≤ 48 → (List.range 48).countP (fun k => (List.range n).any fun j => eqP g k j) = fsN g n * (List.range 48).countP (fun k => eqP g k 0)
 | 0, _ => by
  show (List.range 48).countP (fun k => false) = 0 * _
  rw [Nat.zero_mul]
  exact List.countP_eq_zero.2 fun x hx => by simp
 | n + 1, hn => by
  have ih := orb hg n (by omega)
  unfold fsN
  by_cases hf : frB g n n = true
  ·rw [if_pos hf, Nat.add_mul, Nat.one_mul, ← ih, ← class_cnt hg (show n < 48 by omega), ← cnt_or]
   ·exact cnt_congr _ fun k hk => any_s
   ·rintro k hk ⟨h1, h2⟩
    obtain ⟨j, hj, he⟩ := List.any_eq_true.1 h1
    have h3 := List.all_eq_true.1 hf j hj
    have h4 : eqP g n j = true := eqP_iff.2 ((eqP_iff.1 h2).symm.trans (eqP_iff.1 he))
    rw [h4] at h3
    cases h3
  ·rw [if_neg hf, show fsN g n + 0 = fsN g n from rfl, ← ih]
   refine cnt_congr _ fun k hk => ?_
   rw [any_s]
   cases h2 : eqP g k n with
   | false => rw [Bool.or_false]
   | true =>
    have : ∃ j, j ∈ List.range n ∧ eqP g n j = true := by
     refine Classical.byContradiction fun hno => hf (List.all_eq_true.2 fun j hj => ?_)
     cases h5 : eqP g n j with
     | false => rfl
     | true => exact absurd ⟨j, hj, h5⟩ hno
    obtain ⟨j, hj, he⟩ := this
    have : ((List.range n).any fun j => eqP g k j) = true := List.any_eq_true.2 ⟨j, hj, eqP_iff.2 ((eqP_iff.1 h2).trans (eqP_iff.1 he))⟩
    rw [this]
    rfl
theorem tn_cnt (hg : validG g = true) : (tnL g.bx g.cs 48).length = (List.range 48).countP (fun k => eqP g k 0) := by
 unfold tnL
 rw [List.length_filterMap_eq_countP]
 refine cnt_congr _ fun k hk => ?_
 by_cases h : tnO g.bx g.cs k = 0
 ·rw [if_pos h]
  exact (eqP_iff.2 ((tnO_iff hg k).1 h)).symm
 ·rw [if_neg h]
  cases h2 : eqP g k 0 with
  | false => rfl
  | true => exact absurd ((tnO_iff hg k).2 (eqP_iff.1 h2)) h
theorem fs_all (hg : validG g = true) : fsN g 48 * (tnL g.bx g.cs 48).length = 48 := by
 rw [tn_cnt hg, ← orb hg 48 (Nat.le_refl _)]
 refine (cnt_congr (q := fun _ => true) _ fun k hk => ?_).trans (by decide +kernel)
 exact List.any_eq_true.2 ⟨k, hk, eqP_iff.2 rfl⟩
theorem cm_cons {x y : Int} {r s : List Int} : cmL (x :: r) (y :: s) = if cmI x y = 0 then cmL r s else cmI x y := by rw [cmL]
theorem cmI_anti {x y : Int} : cmI x y = 0 - cmI y x := by
 unfold cmI
 repeat' split
 all_goals omega
theorem cmL_anti : ∀ {l l' : List Int}, cmL l l' = 0 - cmL l' l
 | [], [] => rfl
 | [], _ :: _ => rfl
 | _ :: _, [] => rfl
 | x :: r, y :: s => by
  have := cmI_anti (x := x) (y := y)
  rw [cm_cons, cm_cons, cmL_anti (l := r) (l' := s)]
  by_cases h : cmI x y = 0
  ·rw [if_pos h, if_pos (by omega)]
  ·rw [if_neg h, if_neg (by omega)]
   exact this
theorem cm_le {x y : Int} {r s : List Int} : cmL (x :: r) (y :: s) ≤ 0 ↔ x < y ∨ (x = y ∧ cmL r s ≤ 0) := by
 rw [cm_cons]
 by_cases h : cmI x y = 0
 ·rw [if_pos h]
  have := cmI_0.1 h
  omega
 ·rw [if_neg h]
  have h1 : ¬ x = y := fun e => h (cmI_0.2 e)
  have h2 := @cmI_lt x y
  omega
theorem cmL_trans : ∀ {l m n : List Int}, cmL l m ≤ 0 → cmL m n ≤ 0 → cmL l n ≤ 0
 | [], _, [], _, _ => by decide
 | [], _, _ :: _, _, _ => by simp [cmL]
 | _ :: _, [], _, h, _ => by simp [cmL] at h
 | _ :: _, _ :: _, [], _, h => by simp [cmL] at h
 | x :: r, y :: s, z :: t, h1, h2 => by
  rw [cm_le] at h1 h2 ⊢
  rcases h1 with h1 | h1 <;> rcases h2 with h2 | h2
  ·left; omega
  ·left; omega
  ·left; omega
  ·right
   exact ⟨h1.1.trans h2.1, cmL_trans h1.2 h2.2⟩
def odG (g h : Gr) : Int := odB g.bx g.cs h.bx h.cs
theorem odG_cm : odG g h = cmL (g.bx.d :: g.bx.e :: g.bx.f :: g.cs) (h.bx.d :: h.bx.e :: h.bx.f :: h.cs) := by
 rw [cm_cons, cm_cons, cm_cons]
 rfl
theorem odG_anti : odG g h = 0 - odG h g := by
 rw [odG_cm, odG_cm]
 exact cmL_anti
theorem odG_trans {i : Gr} (h1 : odG g h ≤ 0) (h2 : odG h i ≤ 0) : odG g i ≤ 0 := by
 rw [odG_cm] at h1 h2 ⊢
 exact cmL_trans h1 h2
theorem odG_self : odG g g = 0 := od_self
def caG (g : Gr) (n : Nat) : Gr × Int := caN g.bx g.cs n
theorem caG_least : ∀ n : Nat, n ≤ 48 → (caG g n).1 = paG (caG g n).2 g ∧ inT (caG g n).2 ∧ ∀ j : Nat, j < n → odG (caG g n).1 (paG j g) ≤ 0
 | 0, _ => by
  have e : caG g 0 = (paG 0 g, 0) := caN_0
  rw [e]
  exact ⟨rfl, inT_0, fun j hj => absurd hj (Nat.not_lt_zero _)⟩
 | n + 1, hn => by
  obtain ⟨i1, i2, i3⟩ := caG_least n (by omega)
  have e : caG g (n + 1) = if odG (paG n g) (caG g n).1 < 0 then (paG n g, (n : Int)) else caG g n := caN_s n
  rw [e]
  by_cases h : odG (paG n g) (caG g n).1 < 0
  ·rw [if_pos h]
   refine ⟨rfl, by unfold inT; omega, fun j hj => ?_⟩
   by_cases hj' : j = n
   ·subst hj'
    show odG (paG j g) (paG j g) ≤ 0
    rw [odG_self]
    exact Int.le_refl 0
   ·exact odG_trans (h := (caG g n).1) (show odG (paG n g) (caG g n).1 ≤ 0 by omega) (i3 j (by omega))
  ·rw [if_neg h]
   refine ⟨i1, i2, fun j hj => ?_⟩
   by_cases hj' : j = n
   ·subst hj'
    have := odG_anti (g := (caG g j).1) (h := paG j g)
    omega
   ·exact i3 j (by omega)
theorem caG_le {k : Int} (hk : inT k) : odG (caG g 48).1 (paG k g) ≤ 0 := by
 have e : ((k.toNat : Nat) : Int) = k := by unfold inT at hk; omega
 have := (caG_least (g := g) 48 (Nat.le_refl _)).2.2 k.toNat (inT_nat hk)
 rwa [e] at this
theorem caG_at : (caG g 48).1 = paG (caG g 48).2 g := (caG_least 48 (Nat.le_refl _)).1
theorem caG_in : inT (caG g 48).2 := (caG_least 48 (Nat.le_refl _)).2.1
theorem caG_tur (hg : validG g = true) (ht : inT t) (hh : ∀ k, inT k → paG k h = paG (cmB k t) g) (hO : atO (caG h 48).1.bx) : (caG g 48).1 = (caG h 48).1 := by
 have h1 : odG (caG g 48).1 (caG h 48).1 ≤ 0 := by
  rw [caG_at (g := h), hh _ caG_in]
  exact caG_le (cm_inT caG_in ht)
 have h2 : odG (caG h 48).1 (caG g 48).1 ≤ 0 := by
  have e : paG (caG g 48).2 g = paG (cmB (caG g 48).2 (ivB t)) h := by
   rw [hh _ (cm_inT caG_in (iv_inT ht)), cm_assoc caG_in (iv_inT ht) ht, (unit_ok ht).2.2.2, (unit_ok caG_in).1]
  rw [caG_at (g := g), e]
  exact caG_le (cm_inT caG_in (iv_inT ht))
 have h3 := odG_anti (g := (caG g 48).1) (h := (caG h 48).1)
 exact (od_iff (g := (caG g 48).1) (h := (caG h 48).1) (caN_O hg 48) hO).1 (show odG (caG g 48).1 (caG h 48).1 = 0 by omega)
end
end Vc
end Go.Proofs.YtaacclebncplbaaGreatDoor
