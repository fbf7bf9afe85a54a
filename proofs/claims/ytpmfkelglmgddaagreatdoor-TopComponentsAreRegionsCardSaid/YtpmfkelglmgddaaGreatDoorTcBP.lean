/- Meshes: plain. -/
import Derived.Test.YtpmfkelglmgddaaGreatDoorTcR
import Derived.Test.YtpmfkelglmgddaaGreatDoorTcY
namespace Go.Proofs.YtpmfkelglmgddaaGreatDoor
namespace Vc
open Go Go.RowKit
set_option linter.unusedVariables false
set_option linter.unusedSimpArgs false
set_option linter.unusedSectionVars false
theorem KL {sh : List Sk} {R : Int → Int → Y} {n k : Int} (h : au sh R n.toNat) (h0 : 0 ≤ k) (h1 : k < n) : oF sh (R k) 0 := by
 have := h k.toNat (by omega)
 rwa [Int.toNat_of_nonneg h0] at this
theorem oG {α : Type} {dec : (Int → Y) → α} {x : X} {n : Nat} {f : Nat → α} : ae dec x = (List.range n).map f ↔ x.i.toNat = n ∧ ∀ j : Nat, j < n → dec (x.r j) = f j := by
 constructor
 ·intro h
  have e := congrArg List.length h
  rw [aK, List.length_map, List.length_range] at e
  refine ⟨e, fun j hj => ?_⟩
  have g : (ae dec x)[j]? = ((List.range n).map f)[j]? := by rw [h]
  rw [bu (by omega), List.getElem?_map, List.getElem?_range hj] at g
  exact Option.some.inj g
 ·rintro ⟨e, h⟩
  apply List.ext_getElem?
  intro j
  by_cases hj : j < n
  ·rw [bu (by omega), List.getElem?_map, List.getElem?_range hj, h j hj]; rfl
  ·rw [List.getElem?_eq_none (by rw [aK]; omega), List.getElem?_eq_none (by simp; omega)]
def dq : Qd := (0, 0, 0, 0, false, 1)
section
variable {t d T : X} (hp : dQ t)
include hp
theorem qb {n : Nat} {q : Qd} (hn : n ≤ 384 * t.i.toNat) (h : q ∈ bK t d T n) : fz t (dy q) = true ∧ q.2.2.2.2.2 = 1 ∧ 0 ≤ q.2.2.2.1 ∧ q.2.2.2.1 ≤ 2 ∧ ∃ (p : I3) (s : Nat), s < 6 ∧ eU t d T p = true ∧ eU t d T (bI p s) = false ∧ q = (if s % 2 = 1 then ((bI p s).1, (bI p s).2.1, (bI p s).2.2, ((s / 2 : Nat) : Int), true, 1) else (p.1, p.2.1, p.2.2, ((s / 2 : Nat) : Int), false, 1)) ∧ dy q = p := by
 unfold bK at h
 obtain ⟨m, hm, h⟩ := List.mem_filterMap.1 h
 have hm := List.mem_range.1 hm
 unfold jl nP at h
 split at h
 ·rename_i hc
  have hs : m % 6 < 6 := by omega
  generalize eV ((m / 6 : Nat) : Int) = p at h hc
  generalize m % 6 = s at *
  cases h
  simp only [Bool.and_eq_true, Bool.not_eq_true'] at hc
  have hq : dy (if s % 2 = 1 then ((bI p s).1, (bI p s).2.1, (bI p s).2.2, ((s / 2 : Nat) : Int), true, 1) else (p.1, p.2.1, p.2.2, ((s / 2 : Nat) : Int), false, 1)) = p := by
   obtain ⟨a, b, c⟩ := p
   match s, hs with
   | 0, _ => rfl
   | 1, _ => simp [dy, bI, aI, e1]; omega
   | 2, _ => rfl
   | 3, _ => simp [dy, bI, aI, e1]; omega
   | 4, _ => rfl
   | 5, _ => simp [dy, bI, aI, e1]; omega
  refine ⟨?_, ?_, ?_, ?_, p, s, hs, hc.1, hc.2, rfl, hq⟩
  ·rw [hq]
   have := hc.1
   unfold eU at this
   exact (Bool.and_eq_true _ _ ▸ this).1
  ·split <;> rfl
  ·split <;> simp only <;> omega
  ·split <;> simp only <;> omega
 ·cases h
end
section
variable {l : List Qd} {k : Int}
theorem lW (h0 : 0 ≤ k) (h : k < (bh cG l).i) : aQ ((bh cG l).r k) = l.getD k.toNat dq ∧ l.getD k.toNat dq ∈ l := by
 have hk : k.toNat < l.length := by rw [fg] at h; omega
 have e : l[k.toNat]? = some l[k.toNat] := List.getElem?_eq_getElem hk
 refine ⟨?_, ?_⟩
 ·have : (bh cG l).r k = cG l[k.toNat] := by funext p; simp [bh, e]
  rw [this, List.getD_eq_getElem?_getD, e]
  rfl
 ·rw [List.getD_eq_getElem?_getD, e]
  exact List.getElem_mem hk
end
theorem D1 (q : Qd) {i : Int} (h0 : 0 ≤ i) (h1 : i < 4) : cd ((bh BQ (gA q)).r i) = (gA q).getD i.toNat (0, 0, 0) := by
 have hn : i = 0 ∨ i = 1 ∨ i = 2 ∨ i = 3 := by omega
 rcases hn with rfl | rfl | rfl | rfl <;> rfl
theorem He {L : X} {l : List Qd} {m : Nat} {a0 a1 a2 b0 b1 b2 : Int} (h : ae oz L = (List.range m).map (DE l)) :
 kr L [a0, a1, a2, b0, b1, b2] = (cO l m (a0, a1, a2) (b0, b1, b2)).map fun (j : Nat) => (j : Int) := by
 obtain ⟨e, h⟩ := oG.1 h
 unfold kr cO
 rw [e]
 have e1 : ((List.range m).filter fun (i : Nat) => dG (wi L i) == [a0, a1, a2, b0, b1, b2]) = (List.range m).filter fun j => aJ l j == (a0, a1, a2) && aJ l (bD j) == (b0, b1, b2) := by
  refine List.filter_congr fun j hj => ?_
  have hj := List.mem_range.1 hj
  have g := h j hj
  unfold oz DE at g
  simp only [Prod.mk.injEq] at g
  obtain ⟨g1, g2, g3⟩ := g
  rw [← g1, ← g2]
  simp only [dG, wi, List.map_cons, List.map_nil]
  rw [Bool.eq_iff_iff]
  simp only [beq_iff_eq, Bool.and_eq_true, Prod.mk.injEq, List.cons.injEq, and_true]
  exact ⟨fun ⟨q1, q2, q3, q4, q5, q6⟩ => ⟨⟨q1, q2, q3⟩, q4, q5, q6⟩, fun ⟨⟨q1, q2, q3⟩, q4, q5, q6⟩ => ⟨q1, q2, q3, q4, q5, q6⟩⟩
 rw [e1]
 refine List.map_congr_left fun j hj => ?_
 have hj := List.mem_range.1 (List.mem_filter.1 hj).1
 have g := h j hj
 unfold oz DE at g
 simp only [Prod.mk.injEq] at g
 exact g.2.2
theorem Aj {l : List Qd} {m : Nat} {p r : I3} {j : Nat} (h : j < (cO l m p r).length) : (cO l m p r).getD j 0 < m ∧ aJ l ((cO l m p r).getD j 0) = p ∧ aJ l (bD ((cO l m p r).getD j 0)) = r := by
 have hm : (cO l m p r).getD j 0 ∈ cO l m p r := by
  rw [List.getD_eq_getElem?_getD, List.getElem?_eq_getElem h]
  exact List.getElem_mem h
 have := List.mem_filter.1 hm
 refine ⟨List.mem_range.1 this.1, ?_⟩
 have g := this.2
 simp only [Bool.and_eq_true, beq_iff_eq] at g
 exact g
theorem D3 {h m : Nat} (hl : h < 4 * m) : bD h < 4 * m := by
 unfold bD
 omega
theorem uj {f i : Nat} (h : i < 4) : bD (4 * f + i) = 4 * f + (i + 1) % 4 := by
 unfold bD
 omega
theorem KM {t d T : X} (hp : dQ t) {q : Qd} (h : q ∈ bo t d T) : fz t (dy q) = true := (qb hp (Nat.le_refl _) ((cq _).mem_iff.1 h)).1
theorem KN {t d T : X} (hp : dQ t) : (bo t d T).length ≤ 3072 := by
 unfold bo
 rw [(cq _).length_eq]
 have := sX (t := t) (d := d) (T := T) (384 * t.i.toNat)
 have := hp.1
 omega
theorem PD (l : List Qd) (m : Nat) : xU l m 0 = DD l := by
 funext h
 simp [xU, DD]
theorem getD_map (l : List Nat) (j : Nat) : (l.map fun (k : Nat) => (k : Int)).getD j 0 = ((l.getD j 0 : Nat) : Int) := by
 rw [List.getD_eq_getElem?_getD, List.getD_eq_getElem?_getD, List.getElem?_map]
 cases l[j]? <;> rfl
theorem qc {l : List Qd} {f i : Nat} (h : i < 4) : aJ l (4 * f + i) = (gA (l.getD f dq)).getD i (0, 0, 0) := by
 unfold aJ cK
 rw [show (4 * f + i) / 4 = f by omega, show (4 * f + i) % 4 = i by omega]
 rfl
section
variable {l : List Qd} {H L v : X} {f i a : Int} (h0 : 0 ≤ i) (h1 : i < 4) (hf : 0 ≤ f) (hv : v.r = (bh BQ (gA (l.getD f.toNat dq))).r)
include h0 h1 hf hv
theorem Hg {x : X} (hH : ae fA H = (List.range (4 * f.toNat + i.toNat)).map (DD l)) (hr : 0 ≤ H.i) (ha : a = 4 * f) (hx : x.i = f) :
 ae fA (aH (aE H.r H.i (ar 6 [cp v.r i 0, cp v.r i 1, cp v.r i 2, xI (a + (i + 1) % 4), xI 0, x])) (H.i + 1)) = (List.range (4 * f.toNat + (i + 1).toNat)).map (DD l) := by
 rw [nc hr, eW, hH, show 4 * f.toNat + (i + 1).toNat = 4 * f.toNat + i.toNat + 1 by omega, List.range_succ, List.map_append]
 congr 1
 show [(cd (v.r i), a + (i + 1) % 4, (0 : Int), x.i)] = [DD l (4 * f.toNat + i.toNat)]
 unfold DD
 rw [qc (by omega), uj (by omega), hv, D1 _ h0 h1, show (4 * f.toNat + i.toNat) / 4 = f.toNat by omega, hx]
 congr 3
 ·omega
 ·congr 1
  omega
theorem Hh {x : X} (hL : ae oz L = (List.range (4 * f.toNat + i.toNat)).map (DE l)) (hr : 0 ≤ L.i) (hx : x.i = 4 * f + i) :
 ae oz (aH (ak (ak (ak (ak (ak (ak (ak L.r L.i 0 (cp v.r i 0)) L.i 1 (cp v.r i 1)) L.i 2 (cp v.r i 2)) L.i 3 (cp v.r ((i + 1) % 4) 0)) L.i 4 (cp v.r ((i + 1) % 4) 1)) L.i 5 (cp v.r ((i + 1) % 4) 2)) L.i 6 x) (L.i + 1)) = (List.range (4 * f.toNat + (i + 1).toNat)).map (DE l) := by
 obtain ⟨e, h⟩ := oG.1 hL
 refine oG.2 ⟨show (L.i + 1).toNat = _ by omega, fun j hj => ?_⟩
 by_cases hc : j = 4 * f.toNat + i.toNat
 ·have hj' : (j : Int) = L.i := by omega
  have e1 : cd (v.r i) = aJ l j := by rw [hc, qc (by omega), hv, D1 _ h0 h1]
  have e2 : cd (v.r ((i + 1) % 4)) = aJ l (bD j) := by
   rw [hc, uj (by omega), qc (by omega), hv, D1 _ (by omega) (by omega)]
   congr 1
   omega
  unfold DE
  rw [← e1, ← e2]
  simp only [oz, aH, ak, hj', cd]
  simp [cp, X.y, hx]
  omega
 ·have hj' : ¬ (j : Int) = L.i := by omega
  rw [← h j (by omega)]
  simp [oz, aH, ak, hj']
end
section
variable {l : List Qd} {m n : Nat} {H : X} (hH : ae fA H = (List.range m).map (xU l m n)) (hn : n < m)
include hH hn
theorem KO {e : X} (he : e.i = (iZ l m n : Nat)) : ae fA (aH (ak H.r (n : Int) 4 e) H.i) = (List.range m).map (xU l m (n + 1)) := by
 obtain ⟨e1, h⟩ := oG.1 hH
 refine oG.2 ⟨e1, fun j hj => ?_⟩
 have g := h j hj
 by_cases hc : j = n
 ·subst hc
  unfold xU at g ⊢
  rw [if_pos (Nat.lt_succ_self _), ← he]
  simp only [fA, cd, Prod.mk.injEq] at g ⊢
  simp [aH, ak, g, X.y]
 ·unfold xU at g ⊢
  have e2 : (if j < n + 1 then ((iZ l m j : Nat) : Int) else 0) = if j < n then ((iZ l m j : Nat) : Int) else 0 := by
   by_cases h3 : j < n
   ·rw [if_pos h3, if_pos (by omega)]
   ·rw [if_neg h3, if_neg (by omega)]
  rw [e2, ← g]
  have : ¬ (j : Int) = n := by omega
  simp [fA, cd, aH, ak, this]
theorem Hi (he : iZ l m n = 0) : ae fA H = (List.range m).map (xU l m (n + 1)) := by
 obtain ⟨e1, h⟩ := oG.1 hH
 refine oG.2 ⟨e1, fun j hj => ?_⟩
 rw [h j hj]
 unfold xU
 by_cases hc : j = n
 ·subst hc
  rw [if_neg (Nat.lt_irrefl _), if_pos (Nat.lt_succ_self _), he]
  rfl
 ·by_cases h3 : j < n
  ·rw [if_pos h3, if_pos (by omega)]
  ·rw [if_neg h3, if_neg (by omega)]
end
section
variable {l : List Qd} {m h : Nat}
theorem Ak (hb : ¬ 1 < (cO l m (aJ l (bD h)) (aJ l h)).length) : iZ l m h = (cO l m (aJ l (bD h)) (aJ l h)).getD 0 0 := by
 unfold iZ
 simp only
 rw [if_neg hb]
theorem Hj {j : Nat} (hm : m = 4 * l.length) (hb : 1 < (cO l m (aJ l (bD h)) (aJ l h)).length) (hj : j < (cO l m (aJ l (bD h)) (aJ l h)).length) (hn : O5 l h j)
 (he : dY (cK l ((cO l m (aJ l (bD h)) (aJ l h)).getD j 0)) (aJ l h) (aJ l (bD h)) = dY (cK l h) (aJ l h) (aJ l (bD h))) : iZ l m h = (cO l m (aJ l (bD h)) (aJ l h)).getD j 0 := by
 subst hm
 unfold iZ
 simp only
 rw [if_pos hb]
 congr 1
 have : ((cO l (4 * l.length) (aJ l (bD h)) (aJ l h)).findIdx? fun t => dY (cK l t) (aJ l h) (aJ l (bD h)) == dY (cK l h) (aJ l h) (aJ l (bD h))) = some j := by
  rw [List.findIdx?_eq_some_iff_getElem]
  refine ⟨hj, ?_, fun k hk => ?_⟩
  ·rw [List.getD_eq_getElem?_getD, List.getElem?_eq_getElem hj] at he
   exact beq_iff_eq.2 he
  ·have := hn k hk
   rw [List.getD_eq_getElem?_getD, List.getElem?_eq_getElem (by omega)] at this
   simpa using this
 rw [this]
 rfl
theorem D4 (hm : m = 4 * l.length) (hb : 1 < (cO l m (aJ l (bD h)) (aJ l h)).length) (hn : O5 l h (cO l m (aJ l (bD h)) (aJ l h)).length) : iZ l m h = (cO l m (aJ l (bD h)) (aJ l h)).getD 0 0 := by
 subst hm
 unfold iZ
 simp only
 rw [if_pos hb]
 congr 1
 have : ((cO l (4 * l.length) (aJ l (bD h)) (aJ l h)).findIdx? fun t => dY (cK l t) (aJ l h) (aJ l (bD h)) == dY (cK l h) (aJ l h) (aJ l (bD h))) = none := by
  rw [List.findIdx?_eq_none_iff]
  intro x hx
  obtain ⟨k, hk, rfl⟩ := List.mem_iff_getElem.1 hx
  have := hn k hk
  rw [List.getD_eq_getElem?_getD, List.getElem?_eq_getElem hk] at this
  simpa using this
 rw [this]
 rfl
end
end Vc
end Go.Proofs.YtpmfkelglmgddaaGreatDoor
namespace Go.Proofs.YtpmfkelglmgddaaGreatDoor
namespace Vc
open Go Go.RowKit
set_option linter.unusedVariables false
def I8 : List ba := [⟨[0, 57], 20, [(.tmp 4, 0, 12287), (.tmp 5, 0, 12288)], [(.own 2, 3, kQ, 3072)], [.ex (.var 2), .ex (.var 3), .ex (.var 4), .ex (.var 1), .ex (.var 0), .ex (.var 5), .ex (.var 6)], 967, 994⟩]
def Kq : E := .add (.var 6) (.ic (-1))
theorem Kr {l : List Qd} {m h : Nat} (hm : 0 < m) : iZ l m h < m := by
 have hg : ∀ j : Nat, (cO l m (aJ l (bD h)) (aJ l h)).getD j 0 < m := fun j => by
  by_cases hj : j < (cO l m (aJ l (bD h)) (aJ l h)).length
  ·exact (Aj hj).1
  ·rw [List.getD_eq_getElem?_getD, List.getElem?_eq_none (by omega)]
   exact hm
 unfold iZ
 simp only
 split
 ·exact hg _
 ·exact hg _
section
variable {g : Nat → Nat → Nat} {n : Int}
theorem sY {α : Type} (F : List Int → α → List Int) (hF : ∀ o a, (F o a).length = o.length) : ∀ (l : List α) (o : List Int), (l.foldl F o).length = o.length
 | [], _ => rfl
 | a :: r, o => by rw [List.foldl_cons, sY F hF r, hF]
theorem qd : ∀ (k f : Nat) (o : List Int), (ja g n k f o).length = o.length
 | 0, _, _ => rfl
 | k + 1, f, o => by
  unfold ja
  rw [sY _ (fun o i => ?_), List.length_set]
  split
  ·exact qd k _ _
  ·rfl
theorem BS (k f : Nat) (o : List Int) (j : Nat) : mU g n k f o (j + 1) = if (mU g n k f o j).getD (g f j) 0 < 0 then ja g n (k - 1) (g f j) (mU g n k f o j) else mU g n k f o j := by
 unfold mU
 rw [List.range_succ, List.foldl_append]
 rfl
theorem zZ {k : Nat} (hk : 0 < k) (f : Nat) (o : List Int) : ja g n k f o = mU g n k f o 4 := by
 obtain ⟨k, rfl⟩ : ∃ j, k = j + 1 := ⟨k - 1, by omega⟩
 rfl
theorem qe (hn : 0 ≤ n) : ∀ (o : List Int) (f : Nat), hY (o.set f n) ≤ hY o ∧ (o.getD f 0 < 0 → hY (o.set f n) + 1 ≤ hY o)
 | [], f => ⟨Nat.le_refl _, fun h => by simp at h⟩
 | a :: r, 0 => by
  have hnn : ¬ n < 0 := by omega
  by_cases ha : a < 0
  ·simp [hY, ha, hnn]
  ·simp [hY, ha, hnn]
 | a :: r, f + 1 => by
  obtain ⟨h1, h2⟩ := qe hn r f
  unfold hY at h1 h2 ⊢
  rw [List.set_cons_succ]
  by_cases ha : a < 0
  ·simp only [List.filter_cons, ha, decide_true, if_true, List.length_cons, List.getD_cons_succ]
   exact ⟨by omega, fun h => by have := h2 h; omega⟩
  ·simp only [List.filter_cons, ha, decide_false, List.getD_cons_succ, Bool.false_eq_true, if_false]
   exact ⟨h1, h2⟩
theorem kU {α : Type} (F : List Int → α → List Int) (hF : ∀ o a, hY (F o a) ≤ hY o) : ∀ (l : List α) (o : List Int), hY (l.foldl F o) ≤ hY o
 | [], _ => Nat.le_refl _
 | a :: r, o => by rw [List.foldl_cons]; exact Nat.le_trans (kU F hF r _) (hF o a)
theorem sZ (hn : 0 ≤ n) : ∀ (k f : Nat) (o : List Int), hY (ja g n k f o) ≤ hY o
 | 0, _, _ => Nat.le_refl _
 | k + 1, f, o => by
  unfold ja
  refine Nat.le_trans (kU _ (fun o i => ?_) _ _) (qe hn o f).1
  split
  ·exact sZ hn k _ _
  ·exact Nat.le_refl _
theorem sQ (hn : 0 ≤ n) (k f : Nat) (o : List Int) (j : Nat) (hf : o.getD f 0 < 0) : hY (mU g n k f o j) + 1 ≤ hY o := by
 refine Nat.le_trans (Nat.add_le_add_right ?_ 1) ((qe hn o f).2 hf)
 unfold mU
 refine kU _ (fun o i => ?_) _ _
 split
 ·exact sZ hn _ _ _
 ·exact Nat.le_refl _
end
theorem pR {x : X} {i : Int} (h0 : 0 ≤ i) (h1 : i < x.i) : (ae cb x).getD i.toNat 0 = (x.r i 0).i := by
 rw [List.getD_eq_getElem?_getD, bu (by omega)]
 show (x.r (i.toNat : Nat) 0).i = _
 rw [Int.toNat_of_nonneg h0]
theorem DH {Q H : X} (hm : ug Q H) (h0 : 0 ≤ Q.i) : H.i.toNat = 4 * Q.i.toNat ∧ ∀ h : Int, 0 ≤ h → h < 4 * Q.i → (H.r h 3).i = bD h.toNat ∧ (H.r h 4).i = iZ (ae aQ Q) (4 * (ae aQ Q).length) h.toNat ∧ (H.r h 5).i = (h.toNat / 4 : Nat) := by
 unfold ug Mu at hm
 have hl : (ae aQ Q).length = Q.i.toNat := aK _ _
 obtain ⟨e1, e2⟩ := oG.1 hm
 refine ⟨by rw [e1, hl], fun h q0 q1 => ?_⟩
 have hlt : h.toNat < 4 * (ae aQ Q).length := by omega
 have e := e2 h.toNat hlt
 rw [Int.toNat_of_nonneg q0] at e
 simp only [fA, xU, Prod.mk.injEq, if_pos hlt] at e
 exact ⟨e.2.1, e.2.2.1, e.2.2.2⟩
theorem kR (g : Nat → Nat → Nat) (N f : Nat) : cP g N (f + 1) = if (cP g N f).1.getD f 0 < 0 then (ja g (cP g N f).2 N f (cP g N f).1, (cP g N f).2 + 1) else cP g N f := by
 unfold cP
 rw [List.range_succ, List.foldl_append]
 rfl
theorem pS {R S : X} (h : R.i = S.i) : ae cb (aH R.r S.i) = ae cb R := by rw [← h]; exact eW ..
theorem vX {Q R : X} {n g : Int} {k : Nat} (h : R.i = Q.i) (h0 : 0 ≤ R.i) : ae cb (aH (oB Q R.r n g k).r R.i) = ja (gN (ae aQ Q)) n k g.toNat (ae cb R) := by
 unfold oB
 rw [pS h]
 have e : R.i = (bh BN (ja (gN (ae aQ Q)) n k g.toNat (ae cb R))).i := by
  rw [fg, qd, aK]
  omega
 rw [e, eW]
 exact eu (fun _ => rfl) _
end Vc
end Go.Proofs.YtpmfkelglmgddaaGreatDoor
namespace Go.Proofs.YtpmfkelglmgddaaGreatDoor
namespace Vc
open Go Go.RowKit
set_option linter.unusedVariables false
set_option linter.unusedSimpArgs false
def fX (q : Qd) : Vt.Sq := ((q.1, q.2.1, q.2.2.1), q.2.2.2.1.toNat, q.2.2.2.2.1)
def Gq (q : Qd) : Prop := 0 ≤ q.2.2.2.1 ∧ q.2.2.2.1 ≤ 2
theorem PE {q : Qd} (h : Gq q) : q.2.2.2.1 = 0 ∨ q.2.2.2.1 = 1 ∨ q.2.2.2.1 = 2 := by unfold Gq at h; omega
theorem B2 {q : Qd} (h : Gq q) : Vt.sS (fX q) = dy q := by
 have h := PE h
 obtain ⟨x, y, z, a, u, n⟩ := q
 dsimp only at h
 rcases h with rfl | rfl | rfl <;> cases u <;> simp [Vt.sS, fX, Vt.oS, Vt.pa, Vt.ps, Vt.ax, dy, aI, e1]
theorem Nh {q : Qd} (h : Gq q) {i : Nat} (hi : i < 4) : Vt.sC (fX q) i = (gA q).getD i (0, 0, 0) := by
 have h := PE h
 obtain ⟨x, y, z, a, u, n⟩ := q
 dsimp only at h
 match i, hi with
 | 0, _ => rcases h with rfl | rfl | rfl <;> cases u <;> simp [Vt.sC, fX, Vt.oC, Vt.pa, gA]
 | 1, _ => rcases h with rfl | rfl | rfl <;> cases u <;> simp [Vt.sC, fX, Vt.oC, Vt.pa, Vt.tb, Vt.ax, gA, aI, e1]
 | 2, _ => rcases h with rfl | rfl | rfl <;> cases u <;> simp [Vt.sC, fX, Vt.oC, Vt.pa, Vt.tb, Vt.tc, Vt.ax, gA, aI, e1]
 | 3, _ => rcases h with rfl | rfl | rfl <;> cases u <;> simp [Vt.sC, fX, Vt.oC, Vt.pa, Vt.tb, Vt.tc, Vt.ax, gA, aI, e1] <;> omega
theorem PF {q : Qd} (h : Gq q) {i : Nat} (hi : i < 4) : Vt.sT (fX q) i = (gA q).getD ((i + 1) % 4) (0, 0, 0) := Nh h (by omega : (i + 1) % 4 < 4)
theorem Hk (q : Qd) (p r : I3) : dY q p r = dY q r p := by
 have hk : ∀ (k q a : Int) (p r : Int) (u : Bool), oA k q p r a u = oA k q r p a u := fun k q a p r u => by
  unfold oA
  simp only [Int.min_comm p r, eq_comm (a := p) (b := r)]
 unfold dY
 rw [hk, hk 1, hk 2]
theorem Al {q : Qd} (h : Gq q) {i : Nat} (hi : i < 4) : dY q (Vt.sC (fX q) i) (Vt.sT (fX q) i) = dy q := by
 have h := PE h
 obtain ⟨x, y, z, a, u, n⟩ := q
 dsimp only at h
 match i, hi with
 | 0, _ => rcases h with rfl | rfl | rfl <;> cases u <;> simp [Vt.sC, Vt.sT, fX, Vt.oC, Vt.oT, Vt.pa, Vt.tb, Vt.tc, Vt.ax, dY, oA, dy, aI, e1] <;> omega
 | 1, _ => rcases h with rfl | rfl | rfl <;> cases u <;> simp [Vt.sC, Vt.sT, fX, Vt.oC, Vt.oT, Vt.pa, Vt.tb, Vt.tc, Vt.ax, dY, oA, dy, aI, e1] <;> omega
 | 2, _ => rcases h with rfl | rfl | rfl <;> cases u <;> simp [Vt.sC, Vt.sT, fX, Vt.oC, Vt.oT, Vt.pa, Vt.tb, Vt.tc, Vt.ax, dY, oA, dy, aI, e1] <;> omega
 | 3, _ => rcases h with rfl | rfl | rfl <;> cases u <;> simp [Vt.sC, Vt.sT, fX, Vt.oC, Vt.oT, Vt.pa, Vt.tb, Vt.tc, Vt.ax, dY, oA, dy, aI, e1] <;> omega
section
variable {t d T : X} (hp : dQ t)
include hp
theorem Hl {p : I3} (h : eU t d T p = true) : ∃ c : Nat, c < 64 * t.i.toNat ∧ eV (c : Int) = p := by
 obtain ⟨x, y, z⟩ := p
 have hc : eh (da t) x y z = true := ((Bool.and_eq_true _ _).mp h).1
 obtain ⟨⟨k1, k2, k3⟩, k4, k5⟩ := gm hp hc
 obtain ⟨m1, m2, m3⟩ := Am hp hc
 refine ⟨(64 * b7 x y z + (x % 4 + 4 * (y % 4) + 16 * (z % 4))).toNat, by omega, ?_⟩
 rw [Int.toNat_of_nonneg (by omega), qf hp k4 k5 (by omega) (by omega), m1, m2, m3]
 simp only [Prod.mk.injEq]
 omega
theorem Je {q : Qd} (h : q ∈ bo t d T) : Gq q := by
 obtain ⟨_, _, h1, h2, _⟩ := qb hp (Nat.le_refl _) ((cq _).mem_iff.1 h)
 exact ⟨h1, h2⟩
theorem KP : Vt.N5 (fun p => eU t d T p = true) ((bo t d T).map fX) where
 mem := fun q' h => by
  obtain ⟨q, hq, rfl⟩ := List.mem_map.1 h
  have ha := Je hp hq
  obtain ⟨_, _, _, _, p, s, hs, h1, h2, h3, h4⟩ := qb hp (Nat.le_refl _) ((cq _).mem_iff.1 hq)
  refine ⟨by unfold Gq at ha; show q.2.2.2.1.toNat < 3; omega, by rw [B2 ha, h4]; exact h1, ?_⟩
  have e : Vt.sE (fX q) = bI p s := by
   rw [h3]
   obtain ⟨x, y, z⟩ := p
   match s, hs with
   | 0, _ => simp [Vt.sE, fX, Vt.oE, Vt.pa, Vt.ps, Vt.ax, bI]; omega
   | 1, _ => simp [Vt.sE, fX, Vt.oE, Vt.pa, Vt.ps, Vt.ax, bI]
   | 2, _ => simp [Vt.sE, fX, Vt.oE, Vt.pa, Vt.ps, Vt.ax, bI]; omega
   | 3, _ => simp [Vt.sE, fX, Vt.oE, Vt.pa, Vt.ps, Vt.ax, bI]
   | 4, _ => simp [Vt.sE, fX, Vt.oE, Vt.pa, Vt.ps, Vt.ax, bI]; omega
   | 5, _ => simp [Vt.sE, fX, Vt.oE, Vt.pa, Vt.ps, Vt.ax, bI]
  show ¬ eU t d T (Vt.sE (fX q)) = true
  rw [e, h2]
  exact Bool.false_ne_true
 all := fun q h1 h2 h3 => by
  obtain ⟨⟨x, y, z⟩, a, u⟩ := q
  have key : ∀ (p : I3) (s : Nat) (q' : Qd), s < 6 → eU t d T p = true → ¬ eU t d T (bI p s) = true → (if s % 2 = 1 then ((bI p s).1, (bI p s).2.1, (bI p s).2.2, ((s / 2 : Nat) : Int), true, 1) else (p.1, p.2.1, p.2.2, ((s / 2 : Nat) : Int), false, 1) : Qd) = q' → q' ∈ bo t d T := fun p s q' hs k1 k2 k3 => by
   obtain ⟨c, hc, hcp⟩ := Hl hp k1
   refine (cq _).mem_iff.2 (List.mem_filterMap.2 ⟨6 * c + s, List.mem_range.2 (by omega), ?_⟩)
   unfold jl nP
   rw [show (6 * c + s) / 6 = c by omega, show (6 * c + s) % 6 = s by omega, hcp, k1, Bool.eq_false_iff.2 k2, ← k3]
   rfl
  have h2 : eU t d T (Vt.pa (x, y, z) (Vt.oS a u)) = true := h2
  have h3 : ¬ eU t d T (Vt.pa (x, y, z) (Vt.oE a u)) = true := h3
  have h1 : a < 3 := h1
  have fin : ∀ {q' : Qd}, q' ∈ bo t d T → fX q' = ((x, y, z), a, u) → ((x, y, z), a, u) ∈ (bo t d T).map fX := fun h e => List.mem_map.2 ⟨_, h, e⟩
  have ha : a = 0 ∨ a = 1 ∨ a = 2 := by omega
  rcases ha with rfl | rfl | rfl <;> cases u <;> simp only [Vt.oS, Vt.oE, Vt.pa, Vt.ps, Vt.ax, Bool.false_eq_true, if_false, if_true, Int.add_zero, Int.sub_zero, Int.zero_sub, Int.sub_self, Int.neg_zero] at h2 h3
  ·exact fin (key (x, y, z) 0 (x, y, z, 0, false, 1) (by decide) h2 (by simpa [bI, Int.sub_eq_add_neg] using h3) rfl) rfl
  ·exact fin (key (x + -1, y, z) 1 (x, y, z, 0, true, 1) (by decide) h2 (by simpa [bI, show x + -1 + 1 = x by omega] using h3) (by simp [bI]; omega)) rfl
  ·exact fin (key (x, y, z) 2 (x, y, z, 1, false, 1) (by decide) h2 (by simpa [bI, Int.sub_eq_add_neg] using h3) rfl) rfl
  ·exact fin (key (x, y + -1, z) 3 (x, y, z, 1, true, 1) (by decide) h2 (by simpa [bI, show y + -1 + 1 = y by omega] using h3) (by simp [bI]; omega)) rfl
  ·exact fin (key (x, y, z) 4 (x, y, z, 2, false, 1) (by decide) h2 (by simpa [bI, Int.sub_eq_add_neg] using h3) rfl) rfl
  ·exact fin (key (x, y, z + -1) 5 (x, y, z, 2, true, 1) (by decide) h2 (by simpa [bI, show z + -1 + 1 = z by omega] using h3) (by simp [bI]; omega)) rfl
end
section
variable {Q : List Qd} (ha : ∀ q ∈ Q, Gq q)
include ha
omit ha in
theorem ur {f : Nat} (hf : f < Q.length) : Q.getD f dq ∈ Q := by
 rw [List.getD_eq_getElem?_getD, List.getElem?_eq_getElem hf]
 exact List.getElem_mem hf
theorem An {f i : Nat} (hf : f < Q.length) (hi : i < 4) : aJ Q (4 * f + i) = Vt.sC (fX (Q.getD f dq)) i := by
 rw [qc hi, Nh (ha _ (ur hf)) hi]
theorem Ao {f i : Nat} (hf : f < Q.length) (hi : i < 4) : aJ Q (bD (4 * f + i)) = Vt.sT (fX (Q.getD f dq)) i := by
 rw [uj hi, qc (by omega), PF (ha _ (ur hf)) hi]
theorem oX {f i f' i' : Nat} (hf : f < Q.length) (hi : i < 4) (hf' : f' < Q.length) (hi' : i' < 4) :
 4 * f' + i' ∈ cO Q (4 * Q.length) (aJ Q (bD (4 * f + i))) (aJ Q (4 * f + i)) ↔ Vt.rev (fX (Q.getD f dq)) i (fX (Q.getD f' dq)) i' := by
 unfold cO Vt.rev
 rw [List.mem_filter, Bool.and_eq_true, beq_iff_eq, beq_iff_eq, An ha hf hi, Ao ha hf hi, An ha hf' hi', Ao ha hf' hi', List.mem_range]
 exact ⟨fun h => h.2, fun h => ⟨by omega, h⟩⟩
theorem KQ {f i j : Nat} (hf : f < Q.length) (hi : i < 4) (hj : j ∈ cO Q (4 * Q.length) (aJ Q (bD (4 * f + i))) (aJ Q (4 * f + i))) :
 dY (cK Q j) (aJ Q (4 * f + i)) (aJ Q (bD (4 * f + i))) = Vt.sS (fX (Q.getD (j / 4) dq)) := by
 have hj' := List.mem_filter.1 hj
 have hlt := List.mem_range.1 hj'.1
 have e : j = 4 * (j / 4) + j % 4 := by omega
 have hr := (oX ha hf hi (f' := j / 4) (i' := j % 4) (by omega) (by omega)).1 (by rwa [← e])
 have hq : cK Q j = Q.getD (j / 4) dq := rfl
 have hm := ha _ (ur (f := j / 4) (by omega))
 rw [hq, An ha hf hi, Ao ha hf hi, ← hr.1, ← hr.2, Hk, Al hm (by omega), B2 hm]
theorem KR {sol : I3 → Prop} (H : Vt.N5 sol (Q.map fX)) {f i : Nat} (hf : f < Q.length) (hi : i < 4) :
 gN Q f i < Q.length ∧ Vt.Jn sol (dy (Q.getD f dq)) (dy (Q.getD (gN Q f i) dq)) := by
 have hmem : ∀ {f : Nat}, f < Q.length → fX (Q.getD f dq) ∈ Q.map fX := fun hf => List.mem_map.2 ⟨_, ur hf, rfl⟩
 have hix : ∀ {q' : Vt.Sq}, q' ∈ Q.map fX → ∃ f', f' < Q.length ∧ q' = fX (Q.getD f' dq) := fun h => by
  obtain ⟨q, hq, rfl⟩ := List.mem_map.1 h
  obtain ⟨f', h1, rfl⟩ := List.getElem_of_mem hq
  exact ⟨f', h1, by rw [List.getD_eq_getElem?_getD, List.getElem?_eq_getElem h1]; rfl⟩
 obtain ⟨q', hq', i', hi', hr⟩ := Vt.Kl H (hmem hf) hi
 obtain ⟨f', hf', rfl⟩ := hix hq'
 have hb0 := (oX ha hf hi hf' hi').2 hr
 obtain ⟨b, hb⟩ : ∃ b, b = cO Q (4 * Q.length) (aJ Q (bD (4 * f + i))) (aJ Q (4 * f + i)) := ⟨_, rfl⟩
 obtain ⟨j, hj, htw, hc⟩ : ∃ j, j ∈ b ∧ iZ Q (4 * Q.length) (4 * f + i) = j ∧ (Vt.sS (fX (Q.getD (j / 4) dq)) = Vt.sS (fX (Q.getD f dq)) ∨ ∀ k ∈ b, Vt.sS (fX (Q.getD (k / 4) dq)) ≠ Vt.sS (fX (Q.getD f dq))) := by
  rw [← hb] at hb0
  have hlen := List.length_pos_of_mem hb0
  have hown : dY (cK Q (4 * f + i)) (aJ Q (4 * f + i)) (aJ Q (bD (4 * f + i))) = Vt.sS (fX (Q.getD f dq)) := by
   have hm := ha _ (ur hf)
   rw [show cK Q (4 * f + i) = Q.getD f dq by unfold cK; rw [show (4 * f + i) / 4 = f by omega]; rfl, An ha hf hi, Ao ha hf hi, Al hm hi, B2 hm]
  have ht : ∀ k ∈ b, dY (cK Q k) (aJ Q (4 * f + i)) (aJ Q (bD (4 * f + i))) = Vt.sS (fX (Q.getD (k / 4) dq)) := fun k hk => KQ ha hf hi (by rwa [← hb])
  have hget : ∀ k, k < b.length → b.getD k 0 ∈ b := fun k hk => by
   rw [List.getD_eq_getElem?_getD, List.getElem?_eq_getElem hk]; exact List.getElem_mem hk
  unfold iZ
  simp only [← hb, hown]
  by_cases h1 : b.length > 1
  ·rw [if_pos h1]
   cases hx : b.findIdx? (fun t => dY (cK Q t) (aJ Q (4 * f + i)) (aJ Q (bD (4 * f + i))) == Vt.sS (fX (Q.getD f dq))) with
   | some k =>
    obtain ⟨hk, he, _⟩ := List.findIdx?_eq_some_iff_getElem.1 hx
    refine ⟨_, hget k hk, rfl, .inl ?_⟩
    rw [← ht _ (hget k hk)]
    show dY (cK Q (b.getD k 0)) _ _ = _
    rw [List.getD_eq_getElem?_getD, List.getElem?_eq_getElem hk]
    exact eq_of_beq he
   | none =>
    refine ⟨_, hget 0 hlen, rfl, .inr fun k hk e => ?_⟩
    have := List.findIdx?_eq_none_iff.1 hx k hk
    rw [ht k hk, e] at this
    simp at this
  ·rw [if_neg h1]
   refine ⟨_, hget 0 hlen, rfl, ?_⟩
   by_cases e : Vt.sS (fX (Q.getD (b.getD 0 0 / 4) dq)) = Vt.sS (fX (Q.getD f dq))
   ·exact .inl e
   ·refine .inr fun k hk => ?_
    obtain ⟨n, hn, rfl⟩ := List.getElem_of_mem hk
    obtain rfl : n = 0 := by omega
    have e0 : b.getD 0 0 = b[0] := by rw [List.getD_eq_getElem?_getD, List.getElem?_eq_getElem hn]; rfl
    rwa [e0] at e
 have hlt := List.mem_range.1 (List.mem_filter.1 (hb ▸ hj)).1
 have hg : gN Q f i = j / 4 := by unfold gN; rw [htw]
 have e : j = 4 * (j / 4) + j % 4 := by omega
 have hf2 : j / 4 < Q.length := by omega
 have hr2 := (oX ha hf hi hf2 (i' := j % 4) (by omega)).1 (by rw [← e, ← hb]; exact hj)
 rw [hg]
 refine ⟨hf2, ?_⟩
 have hJ := Vt.ym H (hmem hf) hi (hmem hf2) (by omega) hr2 (hc.imp id fun h q'' hq'' i'' hi'' hr'' => by
  obtain ⟨f'', hf'', rfl⟩ := hix hq''
  have := h (4 * f'' + i'') (by rw [hb]; exact (oX ha hf hi hf'' hi'').2 hr'')
  rwa [show (4 * f'' + i'') / 4 = f'' by omega] at this)
 rwa [B2 (ha _ (ur hf)), B2 (ha _ (ur hf2))] at hJ
end
section
variable {g : Nat → Nat → Nat} {N : Nat}
def Eg (g : Nat → Nat → Nat) (N : Nat) (a b : Int) : Prop := ∃ f i : Nat, f < N ∧ i < 4 ∧ a = (f : Int) ∧ b = (g f i : Nat)
theorem D5 (hg : ∀ f i, f < N → i < 4 → g f i < N) {n : Int} (hn : 0 ≤ n) : ∀ (k f : Nat) (o : List Int), f < N → o.length = N → o.getD f 0 < 0 →
 Vt.sr (Eg g N) f n o (ja g n k f o) ∧ (0 < k → 0 ≤ (ja g n k f o).getD f 0)
 | 0, f, o, _, _, _ => ⟨Vt.sr.refl .., fun h => absurd h (by decide)⟩
 | k + 1, f, o, hf, ho, h => by
  have h0 : Vt.sr (Eg g N) f n o (o.set f n) := Vt.sr.set h
  have step : ∀ j : Nat, j ≤ 4 → Vt.sr (Eg g N) f n (o.set f n) ((List.range j).foldl (fun o i => if o.getD (g f i) 0 < 0 then ja g n k (g f i) o else o) (o.set f n)) := fun j => by
   induction j with
   | zero => intro _; exact Vt.sr.refl ..
   | succ j ih =>
    intro hj
    have hi := ih (by omega)
    rw [List.range_succ, List.foldl_append]
    refine hi.trans hn ?_
    show Vt.sr _ _ _ _ (if _ then _ else _)
    split
    ·rename_i hneg
     have hgj := hg f j hf (by omega)
     exact Vt.sr.via ⟨f, j, hf, by omega, rfl, rfl⟩ (D5 hg hn k (g f j) _ hgj (by rw [hi.1, List.length_set, ho]) hneg).1
    ·exact Vt.sr.refl ..
  have h4 := step 4 (Nat.le_refl _)
  refine ⟨h0.trans hn h4, fun _ => ?_⟩
  show 0 ≤ ((List.range 4).foldl _ (o.set f n)).getD f 0
  have hs : (o.set f n).getD f 0 = n := by simp [List.getD, show f < o.length by omega]
  rcases h4.2 f (by rw [List.length_set]; omega) with e | e
  ·rw [e, hs]; exact hn
  ·rw [e.2.1]; exact hn
theorem wj (hg : ∀ f i, f < N → i < 4 → g f i < N) : ∀ f : Nat, f ≤ N → (cP g N f).1.length = N ∧ 0 ≤ (cP g N f).2 ∧ Vt.N6 (Eg g N) (cP g N f).2 (cP g N f).1 ∧ ∀ j : Nat, j < f → 0 ≤ (cP g N f).1.getD j 0
 | 0, _ => by
  have hr : ∀ j : Nat, j < N → (List.replicate N (-1 : Int)).getD j 0 = -1 := fun j hj => by simp [List.getD, hj]
  refine ⟨List.length_replicate, Int.le_refl _, fun j hj => ?_, fun j hj => absurd hj (Nat.not_lt_zero _)⟩
  have hj : j < N := by simpa [cP] using hj
  show (List.replicate N (-1 : Int)).getD j 0 < 0 ∧ ∀ i : Nat, _ → 0 ≤ (List.replicate N (-1 : Int)).getD j 0 → _
  rw [hr j hj]
  exact ⟨by decide, fun i _ h => absurd h (by decide)⟩
 | f + 1, hf => by
  obtain ⟨h1, h2, h3, h4⟩ := wj hg f (by omega)
  rw [kR]
  split
  ·rename_i hneg
   obtain ⟨s1, s2⟩ := D5 hg h2 N f _ (by omega) h1 hneg
   refine ⟨s1.1.trans h1, by show 0 ≤ (cP g N f).2 + 1; omega, h3.next s1, fun j hj => ?_⟩
   by_cases e : j = f
   ·rw [e]; exact s2 (by omega)
   ·have := h4 j (by omega)
    rcases s1.2 j (by omega) with q | q
    ·rw [q]; exact this
    ·omega
  ·rename_i hneg
   refine ⟨h1, h2, h3, fun j hj => ?_⟩
   by_cases e : j = f
   ·rw [e]; omega
   ·exact h4 j (by omega)
end
theorem wm {t d T : X} (hp : dQ t) {a b : Nat} (ha : a < (bo t d T).length) (hb : b < (bo t d T).length) (h : (iP (bo t d T)).getD a 0 = (iP (bo t d T)).getD b 0) :
 Vt.Jn (fun p => eU t d T p = true) (dy ((bo t d T).getD a dq)) (dy ((bo t d T).getD b dq)) := by
 have hax : ∀ q ∈ bo t d T, Gq q := fun q hq => Je hp hq
 have H := KP (d := d) (T := T) hp
 obtain ⟨Q, hQ⟩ : ∃ Q, Q = bo t d T := ⟨_, rfl⟩
 rw [← hQ] at ha hb h hax H ⊢
 have htw := fun f i (hf : f < Q.length) (hi : i < 4) => KR hax H hf hi
 obtain ⟨h1, h2, h3, h4⟩ := wj (g := gN Q) (N := Q.length) (fun f i hf hi => (htw f i hf hi).1) Q.length (Nat.le_refl _)
 have hc := ((h3 b (by omega)).2 a (by omega) (h4 b hb) h)
 have := hc.Km (sol := fun p => eU t d T p = true) (S := fun n => dy (Q.getD n.toNat dq)) (fun x y hxy => by
  obtain ⟨f, i, hf, hi, rfl, rfl⟩ := hxy
  exact (htw f i hf hi).2) (by
  have hm := (H.mem (fX (Q.getD a dq)) (List.mem_map.2 ⟨_, ur ha, rfl⟩)).2.1
  rwa [B2 (hax _ (ur ha))] at hm)
 exact this
end Vc
end Go.Proofs.YtpmfkelglmgddaaGreatDoor
namespace Go.Proofs.YtpmfkelglmgddaaGreatDoor
namespace Vc
open Go Go.RowKit
set_option linter.unusedVariables false
section
variable {b : Bx} {cs : List Int} {p q r i : Int} {L l T t d : X}
def mT (b : Bx) (cs : List Int) (p q r i : Int) (L : X) : Prop := i ≤ 64 ∧ L.i = i ∧ ∀ j : Int, 0 ≤ j → j < i → (L.r j 0).i = uf b cs (p + j % 4, q + j / 4 % 4, r + j / 16)
theorem dO : mT b cs p q r 0 (aH (ar 1 []) 0) := ⟨by decide, rfl, fun j a c => by omega⟩
theorem dP (h : mT b cs p q r i L) (h0 : 0 ≤ i) (hi : i < 64) {x y z : Int} (ex : x = p + i % 4) (ey : y = q + i / 4 % 4) (ez : z = r + i / 16) : mT b cs p q r (i + 1) (aH (aE L.r L.i (ar 1 [xI (uf b cs (x, y, z))])) (L.i + 1)) := by
 obtain ⟨h1, h2, h3⟩ := h
 refine ⟨by omega, show L.i + 1 = i + 1 by omega, fun j j0 j1 => ?_⟩
 show (aE L.r L.i _ j 0).i = _
 unfold aE
 by_cases e : j < i
 ·rw [if_pos (by omega)]; exact h3 j j0 e
 ·rw [if_neg (by omega), show j - L.i = 0 by omega, show j = i by omega, ← ex, ← ey, ← ez]
  rfl
def Ni (b : Bx) (cs : List Int) (k : Nat) (x : Int → Int → Y) : Prop := ∀ m : Nat, m < 64 → (x m 0).i = uf b cs ((ff k).1 + (m : Int) % 4, (ff k).2.1 + (m : Int) / 4 % 4, (ff k).2.2 + (m : Int) / 16)
theorem fu {k : Nat} (h : mT b cs p q r i L) (hi : ¬ i < 64) (e : ff k = (p, q, r)) : L.i = 64 ∧ Ni b cs k L.r := by
 obtain ⟨h1, h2, h3⟩ := h
 refine ⟨by omega, fun m hm => ?_⟩
 rw [e]
 exact h3 m (by omega) (by omega)
def GA : List X → Int → Int → Y
 | [] => ar 1 []
 | x :: r => aE x.r 64 (GA r)
theorem Di : ∀ (xs : List X) (k : Nat) (x : X), xs[k]? = some x → ∀ m : Nat, m < 64 → GA xs (64 * (k : Int) + m) 0 = x.r m 0
 | [], k, x, h, _, _ => by simp at h
 | a :: r, 0, x, h, m, hm => by
  cases h
  show aE a.r 64 _ _ 0 = _
  unfold aE
  rw [if_pos (by omega)]
  congr 1; omega
 | a :: r, k + 1, x, h, m, hm => by
  show aE a.r 64 _ _ 0 = _
  unfold aE
  rw [if_neg (by omega), ← Di r k x (by simpa using h) m hm]
  congr 1; omega
theorem Dg (hp : dQ t) (hc : uh b (da t)) (ht : ∀ k : Nat, (k : Int) < t.i → Ni b (ae cb l) k fun j p => d.r (64 * (k : Int) + j) p) (p : I3) : eU t d T p = Df b l T p := by
 obtain ⟨x, y, z⟩ := p
 obtain ⟨⟨e1, e2, e3⟩, e4, e5, e6⟩ := hc
 have hb : b.has (x, y, z) = eh (da t) x y z := by
  unfold Bx.has eh jS
  rw [e1, e2, e3, e4, e5, e6]
  refine decide_eq_decide.2 ⟨fun h => ?_, fun h => ?_⟩ <;> dsimp only at h ⊢ <;> omega
 unfold eU Df
 rw [hb]
 cases h : eh (da t) x y z with
 | false => rfl
 | true =>
  obtain ⟨⟨k1, k2, k3⟩, k4, k5⟩ := gm hp h
  have := ht (b7 x y z).toNat (by omega) (x % 4 + 4 * (y % 4) + 16 * (z % 4)).toNat (by omega)
  dsimp only at this
  rw [Int.toNat_of_nonneg k4, Int.toNat_of_nonneg (by omega)] at this
  show (true && pP T (d.r (cidx x y z) 0).i) = _
  unfold cidx
  rw [this]
  have e : ((ff (b7 x y z)).1 + (x % 4 + 4 * (y % 4) + 16 * (z % 4)) % 4, (ff (b7 x y z)).2.1 + (x % 4 + 4 * (y % 4) + 16 * (z % 4)) / 4 % 4, (ff (b7 x y z)).2.2 + (x % 4 + 4 * (y % 4) + 16 * (z % 4)) / 16) = (x, y, z) := by
   unfold ff b7
   simp only [Prod.mk.injEq]
   omega
  rw [e]
theorem jU {g : Nat → Nat → Nat} {N : Nat} : ∀ f : Nat, (cP g N f).1.length = N
 | 0 => List.length_replicate
 | f + 1 => by
  rw [kR]
  split
  ·exact (qd N f _).trans (jU f)
  ·exact jU f
theorem Dh : ug (bh cG (bo t d T)) (bh DC (Mu (bo t d T))) := by
 unfold ug
 rw [eu (enc := DC) (dec := fA) (fun _ => rfl), eu gG]
theorem tY : (bh BN (iP (ae aQ (bh cG (bo t d T))))).i = (bh cG (bo t d T)).i := by
 rw [fg, fg, eu gG]
 unfold iP
 rw [jU]
theorem vS (hp : dQ t) (hsol : ∀ p, eU t d T p = Df b l T p) {u v : Int} (hu : 0 ≤ u ∧ u < (bh cG (bo t d T)).i) (hv : 0 ≤ v ∧ v < (bh cG (bo t d T)).i)
 (h : ((bh BN (iP (ae aQ (bh cG (bo t d T))))).r u 0).i = ((bh BN (iP (ae aQ (bh cG (bo t d T))))).r v 0).i) :
 Vt.Jn (xW b l T) (dy (aQ ((bh cG (bo t d T)).r u))) (dy (aQ ((bh cG (bo t d T)).r v))) := by
 have hl : (iP (bo t d T)).length = (bo t d T).length := by unfold iP; rw [jU]
 rw [eu gG] at h
 have hg : ∀ w : Int, 0 ≤ w → w < (bh cG (bo t d T)).i → ((bh BN (iP (bo t d T))).r w 0).i = (iP (bo t d T)).getD w.toNat 0 := fun w w0 w1 => by
  rw [fg] at w1
  unfold bh
  simp only [List.getElem?_eq_getElem (show w.toNat < (iP (bo t d T)).length by omega), List.getD_eq_getElem?_getD]
  rfl
 rw [hg u hu.1 hu.2, hg v hv.1 hv.2] at h
 rw [(lW hu.1 hu.2).1, (lW hv.1 hv.2).1]
 have := wm hp (by have := hu.2; rw [fg] at this; omega) (by have := hv.2; rw [fg] at this; omega) h
 have e : (fun p => eU t d T p = true) = xW b l T := funext fun p => by unfold xW; rw [hsol]
 rwa [e] at this
end
end Vc
end Go.Proofs.YtpmfkelglmgddaaGreatDoor
