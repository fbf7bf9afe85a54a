/- Layer 20, plain: what the reference does is what the program does. -/
import Derived.Test.YtaacclebncplbaaGreatDoorC20N
import Derived.Test.YtaacclebncplbaaGreatDoorC07Ha
import Derived.Test.YtaacclebncplbaaGreatDoorC20B
import Derived.Test.YtaacclebncplbaaGreatDoorC07I
import Derived.Test.YtaacclebncplbaaGreatDoorC07P
namespace Go.Proofs.YtaacclebncplbaaGreatDoor
namespace Vc
open Go Go.RowKit
set_option linter.unusedVariables false
section
variable {gb sb b b' : Bx} {cs scs cs' : List Int} {a p q : Pt} {k n : Int}
theorem wt_len : ∀ n : Nat, (wtN gb cs sb scs b' k a n).length = cs.length
 | 0 => rfl
 | n + 1 => by
  show (setL gb (wtN gb cs sb scs b' k a n) _ _).length = _
  rw [set_len, wt_len n]
theorem wt_get (hv : gb.vol = cs.length) (hk : inT k) : ∀ (n : Nat), (n : Int) ≤ b'.vol → ∀ q, gb.has q = true →
 getL gb (wtN gb cs sb scs b' k a n) q = if (sr2 b' k a q).2 = true ∧ b'.idx (sr2 b' k a q).1 < n then getL sb scs (sr2 b' k a q).1 else getL gb cs q
 | 0, _, q, hq => by
  rw [if_neg]
  ·rfl
  ·rintro ⟨h1, h2⟩
   have := idx_ok (pl_sr (p := (sr2 b' k a q).1) (Prod.ext rfl h1)).1
   omega
 | n + 1, hn, q, hq => by
  have hb : b'.has (b'.at n) = true := at_has (by omega) (by omega)
  have hi : b'.idx (b'.at n) = n := idx_at (by omega) (by omega)
  have hs := sr_pl (a := a) hk hb
  have ih := wt_get hv hk n (by omega) q hq
  show getL gb (setL gb (wtN gb cs sb scs b' k a n) (pl2 b' k a (b'.at n)).1 (getL sb scs (b'.at n))) q = _
  by_cases e : (pl2 b' k a (b'.at n)).1 = q
  ·rw [e] at hs ⊢
   rw [get_set (by rw [wt_len]; exact hv), if_pos hq, hs, if_pos ⟨rfl, by rw [hi]; omega⟩]
  ·rw [get_set_ne e, ih]
   by_cases h1 : (sr2 b' k a q).2 = true
   ·have hp := pl_sr (p := (sr2 b' k a q).1) (Prod.ext rfl h1)
    have hne : b'.idx (sr2 b' k a q).1 ≠ n := fun h => by
     have : (sr2 b' k a q).1 = b'.at n := idx_inj hp.1 hb (by rw [h, hi])
     rw [this] at hp
     exact e (congrArg Prod.fst hp.2.2)
    by_cases h2 : b'.idx (sr2 b' k a q).1 < n
    ·rw [if_pos ⟨h1, h2⟩, if_pos ⟨h1, by omega⟩]
    ·rw [if_neg (fun h => h2 h.2), if_neg fun h => h2 (by have := h.2; omega)]
   ·rw [if_neg fun h => h1 h.1, if_neg fun h => h1 h.1]
theorem wt_all (hv : gb.vol = cs.length) (hk : inT k) {v : Nat} (he : (v : Int) = b'.vol) (hq : gb.has q = true) :
 getL gb (wtN gb cs sb scs b' k a v) q = if (sr2 b' k a q).2 = true then getL sb scs (sr2 b' k a q).1 else getL gb cs q := by
 rw [wt_get hv hk v (by omega) q hq]
 by_cases h1 : (sr2 b' k a q).2 = true
 ·have := idx_ok (pl_sr (p := (sr2 b' k a q).1) (Prod.ext rfl h1)).1
  rw [if_pos ⟨h1, by omega⟩, if_pos h1]
 ·rw [if_neg fun h => h1 h.1, if_neg h1]
theorem wt_val (h : validG ⟨gb, cs⟩ = true) (hm : scs.all matB = true) : ∀ n : Nat, validG ⟨gb, wtN gb cs sb scs b' k a n⟩ = true
 | 0 => h
 | n + 1 => val_setM (wt_val h hm n) (mat_getL hm)
theorem dif_fun {f : Pt → Option Int} (hv : gb.vol = cs.length) (h : ∀ i : Nat, i < cs.length → getL gb cs' (gb.at i) = (f (gb.at i)).getD (cs.getD i 0)) :
 difL gb cs gb cs' = chL gb cs f := fm_congr fun i hi => by
 rw [difP_eq, h i hi]
 unfold chC
 have hb : gb.has (gb.at i) = true := at_has (by omega) (by omega)
 cases hf : f (gb.at i) with
 | none => exact if_neg fun x => x.2 rfl
 | some c =>
  by_cases e : c = cs.getD i 0
  ·rw [if_neg fun x => x.2 e]
   exact (if_pos e).symm
  ·rw [if_pos ⟨hb, e⟩]
   exact (if_neg e).symm
theorem dif_wt (hv : gb.vol = cs.length) (hk : inT k) {v : Nat} (he : (v : Int) = b'.vol) : difL gb cs gb (wtN gb cs sb scs b' k a v) = chL gb cs (cpF sb scs b' k a) :=
 dif_fun hv fun i hi => by
  rw [wt_all hv hk he (at_has (by omega) (by omega)), cpF_eq]
  split
  ·rfl
  ·rw [getL_at (n := 0) rfl (by omega)]
   rfl
theorem rw_len : ∀ n : Nat, (rwN gb cs sb scs b' n).length = cs.length
 | 0 => rfl
 | n + 1 => by
  unfold rwN
  split
  ·rw [set_len, rw_len n]
  ·exact rw_len n
theorem rw_get (hv : gb.vol = cs.length) : ∀ (n : Nat), n ≤ cs.length → ∀ i : Nat, i < cs.length →
 getL gb (rwN gb cs sb scs b' n) (gb.at i) = if i < n then (rpF sb scs b' (gb.at i)).getD (cs.getD i 0) else cs.getD i 0
 | 0, _, i, hi => by
  rw [if_neg (by omega)]
  exact getL_at (n := 0) rfl (by omega)
 | n + 1, hn, i, hi => by
  have ih := rw_get hv n (by omega) i hi
  have hb : gb.has (gb.at n) = true := at_has (by omega) (by omega)
  unfold rwN
  by_cases e : n = i
  ·subst e
   rw [if_pos (by omega)]
   rw [if_neg (by omega)] at ih
   cases hf : rpF sb scs b' (gb.at n) with
   | none => exact ih
   | some c =>
    show getL gb (setL gb (rwN gb cs sb scs b' n) (gb.at n) c) (gb.at n) = _
    rw [get_set (by rw [rw_len]; exact hv), if_pos hb]
    rfl
  ·have ne : gb.at n ≠ gb.at i := fun h => e (by have := at_inj (b := gb) (i := n) (j := i) (by omega) (by omega) (by omega) (by omega) h; omega)
   cases hf : rpF sb scs b' (gb.at n) with
   | none =>
    show getL gb (rwN gb cs sb scs b' n) (gb.at i) = _
    rw [ih]
    by_cases hl : i < n
    ·rw [if_pos hl, if_pos (by omega)]
    ·rw [if_neg hl, if_neg (by omega)]
   | some c =>
    show getL gb (setL gb (rwN gb cs sb scs b' n) (gb.at n) c) (gb.at i) = _
    rw [get_set_ne ne, ih]
    by_cases hl : i < n
    ·rw [if_pos hl, if_pos (by omega)]
    ·rw [if_neg hl, if_neg (by omega)]
theorem rw_val (h : validG ⟨gb, cs⟩ = true) (hm : scs.all matB = true) : ∀ n : Nat, validG ⟨gb, rwN gb cs sb scs b' n⟩ = true
 | 0 => h
 | n + 1 => by
  unfold rwN
  split
  ·rename_i c hc
   refine val_setM (rw_val h hm n) ?_
   unfold rpF at hc
   split at hc
   ·rw [← Option.some.inj hc]
    exact mat_getL hm
   ·cases hc
  ·exact rw_val h hm n
theorem dif_rw (hv : gb.vol = cs.length) : difL gb cs gb (rwN gb cs sb scs b' cs.length) = chL gb cs (rpF sb scs b') :=
 dif_fun hv fun i hi => by rw [rw_get hv _ (Nat.le_refl _) i hi, if_pos hi]
theorem pp_pt : ppB (turB k b) (turL k b cs) = ptB k b cs := by
 rw [← pt_eq]
 unfold ppB
 congr 1
 refine Prod.ext ?_ (Prod.ext ?_ ?_)
 ·show (turB k b).a * (-1) = (-1) * (turB k b).a
  omega
 ·show (turB k b).b * (-1) = (-1) * (turB k b).b
  omega
 ·show (turB k b).c * (-1) = (-1) * (turB k b).c
  omega
theorem cmL_0 : ∀ {l l' : List Int}, cmL l l' = 0 ↔ l = l'
 | [], [] => by simp [cmL]
 | [], _ :: _ => by simp [cmL]
 | _ :: _, [] => by simp [cmL]
 | x :: r, y :: s => by
  unfold cmL
  by_cases h : cmI x y = 0
  ·rw [if_pos h, cmL_0, cmI_0.1 h]
   simp
  ·rw [if_neg h]
   exact ⟨fun e => absurd e h, fun e => absurd (cmI_0.2 (List.cons.inj e).1) h⟩
theorem orI_0 {m n : Int} : orI m n = 0 ↔ m = 0 ∧ n = 0 := by
 unfold orI
 split
 ·rename_i h
  exact ⟨fun e => ⟨h, e⟩, fun e => e.2⟩
 ·rename_i h
  exact ⟨fun e => absurd e h, fun e => absurd e.1 h⟩
theorem odB_0 : odB b cs b' cs' = 0 ↔ (b.d = b'.d ∧ b.e = b'.e ∧ b.f = b'.f) ∧ cs = cs' := by
 unfold odB
 rw [orI_0, orI_0, orI_0, cmI_0, cmI_0, cmI_0, cmL_0]
 exact ⟨fun h => ⟨⟨h.1, h.2.1, h.2.2.1⟩, h.2.2.2⟩, fun h => ⟨h.1.1, h.1.2.1, h.1.2.2, h.2⟩⟩
def atO (b : Bx) : Prop := b.a = 0 ∧ b.b = 0 ∧ b.c = 0
theorem eq_od (h : atO b) (h' : atO b') : eqG b cs b' cs' = decide (odB b cs b' cs' = 0) := by
 rw [Bool.eq_iff_iff, decide_eq_true_eq, odB_0]
 unfold eqG
 simp only [Bool.and_eq_true, decide_eq_true_eq]
 obtain ⟨a1, a2, a3⟩ := h
 obtain ⟨c1, c2, c3⟩ := h'
 rw [a1, a2, a3, c1, c2, c3]
 exact ⟨fun h => ⟨⟨h.1.1.1.2, h.1.1.2, h.1.2⟩, h.2⟩, fun h => ⟨⟨⟨⟨⟨⟨rfl, rfl⟩, rfl⟩, h.1.1⟩, h.1.2.1⟩, h.1.2.2⟩, h.2⟩⟩
theorem pt_O (hg : validG ⟨b, cs⟩ = true) : atO (ptB k b cs) := by
 have hl := val_len hg
 unfold ptB shfB
 split
 ·rename_i h0
  have e : b = bx0 := by
   rcases val_box hg with h | h
   ·exact h
   ·have := vol_pos' (b := b) h
    have hl : b.vol = cs.length := hl
    omega
  subst e
  by_cases h : inT k
  ·rw [tur_z h]
   exact ⟨rfl, rfl, rfl⟩
  ·rw [tur_out h]
   exact ⟨rfl, rfl, rfl⟩
 ·exact ⟨by show (turB k b).a + (0 - (turB k b).a) = 0; omega, by show (turB k b).b + (0 - (turB k b).b) = 0; omega, by show (turB k b).c + (0 - (turB k b).c) = 0; omega⟩
theorem le_od (hl : cs.length = cs'.length) : leB b cs b' cs' = decide (odB b cs b' cs' < 0) := by
 unfold leB odB
 rw [List.take_of_length_le (by omega), List.take_of_length_le (by omega)]
theorem od_self : odB b cs b cs = 0 := odB_0.2 ⟨⟨rfl, rfl, rfl⟩, rfl⟩
theorem caN_len : ∀ n : Nat, (caN b cs n).1.cs.length = cs.length
 | 0 => by
  rw [caN_0]
  exact turL_len
 | n + 1 => by
  rw [caN_s]
  split
  ·exact turL_len
  ·exact caN_len n
theorem caR_eq (hg : validG ⟨b, cs⟩ = true) : ∀ n : Nat, caR b cs (n + 1) = caN b cs (n + 1)
 | 0 => by
  have e1 : ppB b cs = ptB 0 b cs := by
   have := pp_pt (k := 0) (b := b) (cs := cs)
   rw [tur_box0 hg, tur_0 hg] at this
   exact this
  rw [caR_s, caN_s, if_pos rfl, caN_0, caR_0, if_neg (by show ¬ odB (ptB 0 b cs) (turL 0 b cs) (ptB 0 b cs) (turL 0 b cs) < 0; rw [od_self]; omega), e1, tur_0 hg]
 | n + 1 => by
  rw [caR_s, caN_s, if_neg (by omega), caR_eq hg n, pp_pt, le_od (by rw [turL_len, caN_len])]
  by_cases h : odB (ptB (n + 1 : Nat) b cs) (turL (n + 1 : Nat) b cs) (caN b cs (n + 1)).1.bx (caN b cs (n + 1)).1.cs < 0
  ·rw [if_pos h, decide_eq_true h]
   rfl
  ·rw [if_neg h, decide_eq_false h]
   rfl
theorem caN_O (hg : validG ⟨b, cs⟩ = true) : ∀ n : Nat, atO (caN b cs n).1.bx
 | 0 => by
  rw [caN_0]
  exact pt_O hg
 | n + 1 => by
  rw [caN_s]
  split
  ·exact pt_O hg
  ·exact caN_O hg n
theorem pp_rng (h : nB 1048575 b) : nB 2097151 (ppB b cs) := by
 unfold ppB shfB
 split
 ·exact nB_mono h (by decide)
 ·unfold nB nI at h ⊢
  simp only
  omega
theorem pp_0 (hg : validG ⟨b, cs⟩ = true) : ppB b cs = ptB 0 b cs := by
 have := pp_pt (k := 0) (b := b) (cs := cs)
 rw [tur_box0 hg, tur_0 hg] at this
 exact this
theorem cmI_lt {m n : Int} : cmI m n < 0 ↔ m < n := by
 unfold cmI
 split
 ·omega
 ·split <;> omega
theorem le_1 (h : ¬ b.d = b'.d) : (b.d < b'.d) ↔ leB b cs b' cs' = true := by
 unfold leB
 rw [orI_l (fun e => h (cmI_0.1 e)), decide_eq_true_eq, cmI_lt]
theorem le_2 (h : b.d = b'.d) (h2 : ¬ b.e = b'.e) : (b.e < b'.e) ↔ leB b cs b' cs' = true := by
 unfold leB
 rw [orI_r (cmI_0.2 h), orI_l (fun e => h2 (cmI_0.1 e)), decide_eq_true_eq, cmI_lt]
theorem le_3 (h : b.d = b'.d) (h2 : b.e = b'.e) (h3 : ¬ b.f = b'.f) : (b.f < b'.f) ↔ leB b cs b' cs' = true := by
 unfold leB
 rw [orI_r (cmI_0.2 h), orI_r (cmI_0.2 h2), orI_l (fun e => h3 (cmI_0.1 e)), decide_eq_true_eq, cmI_lt]
theorem le_4 (h : b.d = b'.d) (h2 : b.e = b'.e) (h3 : b.f = b'.f) : leB b cs b' cs' = decide (cmL (cs.take cs'.length) (cs'.take cs.length) < 0) := by
 unfold leB
 rw [orI_r (cmI_0.2 h), orI_r (cmI_0.2 h2), orI_r (cmI_0.2 h3)]
theorem take_getD {m j : Nat} (h : j < m) : (cs.take m).getD j 0 = cs.getD j 0 := by
 rw [List.getD_eq_getElem?_getD, List.getD_eq_getElem?_getD, List.getElem?_take_of_lt h]
theorem le_next {j : Nat} (h : cs.take j = cs'.take j) (h1 : j < cs.length) (h2 : j < cs'.length) (hn : ¬ cs.getD j 0 = cs'.getD j 0) :
 cmL (cs.take cs'.length) (cs'.take cs.length) = cmI (cs.getD j 0) (cs'.getD j 0) := by
 have e1 := take_getD (cs := cs) h2
 have e2 := take_getD (cs := cs') h1
 have := cm_next (l := cs.take cs'.length) (l' := cs'.take cs.length) (n := j) (by rw [List.take_take, List.take_take, Nat.min_eq_left (by omega), Nat.min_eq_left (by omega)]; exact h) (by rw [List.length_take]; omega) (by rw [List.length_take]; omega) (by rw [e1, e2]; exact fun e => hn (cmI_0.1 e))
 rwa [e1, e2] at this
theorem le_end {j : Nat} (h : cs.take j = cs'.take j) (h1 : j ≤ cs.length) (h2 : j ≤ cs'.length) (h3 : cs.length ≤ j ∨ cs'.length ≤ j) : cmL (cs.take cs'.length) (cs'.take cs.length) = 0 := by
 rw [cmL_0]
 rcases h3 with h3 | h3
 ·have e : cs.length = j := by omega
  rw [e, List.take_of_length_le (by omega), ← h, List.take_of_length_le (by omega)]
 ·have e : cs'.length = j := by omega
  rw [e, h, List.take_of_length_le (l := cs') (i := cs.length) (by omega), List.take_of_length_le (by omega)]
end
end Vc
end Go.Proofs.YtaacclebncplbaaGreatDoor
namespace Go.Proofs.YtaacclebncplbaaGreatDoor
namespace Vc
open Go Go.RowKit
set_option linter.unusedVariables false
def PG21 : List RPt := [PS21, PS21, PS21, PS21, PS21, PS21, .row 3 SMat 2097152]
def PI64 : RPt := .int .i64 (-9223372036854775808) 9223372036854775807
def cPt : RCtr := ⟨26, [.one K64, .one K64, .one K64], .agg [PI64, PI64, PI64], none, 1090⟩
def P200 : RPt := .int .i64 (-200000) 200000
def cAddR : RCtr := ⟨28, [RP100, RP100], .agg [P200, P200, P200], none, 1114⟩
def cPpR : RCtr := ⟨31, [RGw], .agg PG21, some 710, 1103⟩
def cLesR : RCtr := ⟨62, [RGw, RGw], .one .bool, none, 1101⟩
def lpLesR : List LSpec := [⟨[0, 0], 20, [(.tmp 5, 0, maxLen)], [], exs 14, 1102, 1102⟩]
def cTnsR : RCtr := ⟨21, [RGw], .one (.row 3 S48 48), some 710, 1041⟩
def lpTnsR : List LSpec := [⟨[0, 0], 20, [(.tmp 4, 0, 48)], [(.tmp 3, 3, S48, 48)], exs 7, 1075, 1075⟩]
def cCanR : RCtr := ⟨18, [RGw], .tup [(true, PG21), (false, [.int .i64 0 47])], some 710, 1042⟩
def lpCanR : List LSpec := [⟨[0, 0], 20, [(.tmp 6, 1, 48), (.tmp 5, 0, 47), (.cell 4 0, -2097151, 2097151), (.cell 4 1, -2097151, 2097151), (.cell 4 2, -2097151, 2097151), (.cell 4 3, -2097151, 2097151), (.cell 4 4, -2097151, 2097151), (.cell 4 5, -2097151, 2097151)], [(.cell 4 6, 3, SMat, 2097152)], exs 7, 1100, 1100⟩]
def cLikR : RCtr := ⟨24, [RGw, RGw], .one .bool, some 711, 1050⟩
def lpCpyR : List LSpec := [⟨[0, 47, 0], 40, [(.tmp 12, 0, 9000000000000), (.cell 9 0, -1048575, 1048575), (.cell 9 1, -1048575, 1048575), (.cell 9 2, -1048575, 1048575), (.cell 9 3, -1048575, 1048575), (.cell 9 4, -1048575, 1048575), (.cell 9 5, -1048575, 1048575)], [(.cell 9 6, 3, SMat, 2097152)], exs 7 ++ exs 17, 1098, 1098⟩]
def lpStmR : List LSpec := [⟨[0, 47, 0], 40, [(.tmp 12, 0, 9000000000000), (.cell 10 0, -1048575, 1048575), (.cell 10 1, -1048575, 1048575), (.cell 10 2, -1048575, 1048575), (.cell 10 3, -1048575, 1048575), (.cell 10 4, -1048575, 1048575), (.cell 10 5, -1048575, 1048575)], [(.cell 10 6, 3, SMat, 2097152)], exs 14 ++ (exs 13).drop 7 ++ (exs 18).drop 14, 1098, 1098⟩]
def cCpyR : RCtr := ⟨11, [RGw, RB64, .one K64, RP64], .tup [PCh, PErr], some 1083, 1030⟩
def cStmR : RCtr := ⟨13, [RGw, RGw, .one K64, RP64], .tup [PCh, PErr], some 1084, 1032⟩
def cRepR : RCtr := ⟨15, [RGw, RGw, RB64], .tup [PCh, PErr], some 1085, 1034⟩
def lpRepR : List LSpec := [⟨[0, 0], 40, [(.tmp 10, 0, 2097152), (.cell 5 0, -1048575, 1048575), (.cell 5 1, -1048575, 1048575), (.cell 5 2, -1048575, 1048575), (.cell 5 3, -1048575, 1048575), (.cell 5 4, -1048575, 1048575), (.cell 5 5, -1048575, 1048575)], [(.cell 5 6, 3, SMat, 2097152)], exs 20, 1099, 1099⟩]
end Vc
end Go.Proofs.YtaacclebncplbaaGreatDoor
namespace Go.Proofs.YtaacclebncplbaaGreatDoor
namespace Vc
open Go Go.RowKit
set_option linter.unusedVariables false
section
variable {b sb B : Bx} {cs scs G H : List Int} {a p q v : Pt} {k n cell i : Int}
theorem idx_sh (h : b.has p = true) : (shP b v).idx (adP p v) = b.idx p := by
 have h' : (shP b v).has (adP p v) = true := by rw [sh_has, sb_ad]; exact h
 show idB (b.a + v.1) (b.b + v.2.1) (b.c + v.2.2) (b.d + v.1) (b.e + v.2.1) (b.f + v.2.2) (p.1 + v.1) (p.2.1 + v.2.1) (p.2.2 + v.2.2) = idB b.a b.b b.c b.d b.e b.f p.1 p.2.1 p.2.2
 have h2 : inB (p.1 + v.1) (p.2.1 + v.2.1) (p.2.2 + v.2.2) (b.a + v.1) (b.b + v.2.1) (b.c + v.2.2) (b.d + v.1) (b.e + v.2.1) (b.f + v.2.2) := has_iff.1 h'
 rw [id_in (has_iff.1 h), id_in h2]
 have e1 : p.2.2 + v.2.2 - (b.c + v.2.2) = p.2.2 - b.c := by omega
 have e2 : b.e + v.2.1 - (b.b + v.2.1) = b.e - b.b := by omega
 have e3 : p.2.1 + v.2.1 - (b.b + v.2.1) = p.2.1 - b.b := by omega
 have e4 : b.d + v.1 - (b.a + v.1) = b.d - b.a := by omega
 have e5 : p.1 + v.1 - (b.a + v.1) = p.1 - b.a := by omega
 rw [e1, e2, e3, e4, e5]
theorem at_sh (h0 : 0 ≤ i) (h1 : i < b.vol) : (shP b v).at i = adP (b.at i) v := by
 have hb := at_has h0 h1
 have h1' : i < (shP b v).vol := by rw [sh_vol]; exact h1
 refine idx_inj (at_has h0 h1') (by rw [sh_has, sb_ad]; exact hb) ?_
 rw [idx_at h0 h1', idx_sh hb, idx_at h0 h1]
theorem st_get (hB : validG ⟨B, G⟩ = true) (hq : B.has q = true) : getL B (wrL B G (chL B G (cpF sb scs b k a))) q = if (sr2 b k a q).2 = true then getL sb scs (sr2 b k a q).1 else getL B G q := by
 have hi := idx_ok hq
 have hl : B.vol = G.length := val_len hB
 have := cp_get (sb := sb) (scs := scs) (b' := b) (k := k) (a := a) hB hi.1 (by omega)
 rw [at_idx hq] at this
 exact this
theorem back_sr (hk : inT k) (hq : b.has q = true) : sr2 (tg2 b k a) (ivB k) (mnP b) q = ((pl2 b k a q).1, true) := by
 have h2 := sr_pl (b := tg2 b k a) (a := mnP b) (iv_inT hk) (tg_has (a := a) hk hq)
 have h3 : pl2 (tg2 b k a) (ivB k) (mnP b) (pl2 b k a q).1 = (q, true) := by
  have := sr_pl (a := a) hk hq
  unfold sr2 at this
  rw [if_pos hk] at this
  exact this
 rw [h3] at h2
 exact h2
theorem st_turn (hs : validG ⟨sb, scs⟩ = true) (hk : inT k) (n : neX sb) (hl : (H.length : Int) = sb.vol)
 (hH : ∀ q, (tg2 sb k a).has q = true → getL (tg2 sb k a) H q = getL sb scs (sr2 sb k a q).1) : H = turL k sb scs := by
 have hv : sb.vol = scs.length := val_len hs
 refine ext_getD 0 (by rw [turL_len]; omega) fun j hj => ?_
 have h0 : (0 : Int) ≤ j := by omega
 have h1 : (j : Int) < sb.vol := by omega
 have h2 : (j : Int) < (tg2 sb k a).vol := by rw [tg_vol hk]; exact h1
 have h3 : (j : Int) < (turB k sb).vol := by rw [tur_vol]; exact h1
 have hq := hH _ (at_has h0 h2)
 rw [getL_at (n := 0) rfl h2] at hq
 rw [hq]
 have e : (tg2 sb k a).at j = adP ((turB k sb).at j) (sbP a (mnP (turB k sb))) := by rw [tg_sh hk n, at_sh h0 h3]
 rw [e, sr_ad hk n, sb_ad, if_pos (at_has h0 h3)]
 show getL sb scs (tcP (ivB k) ((turB k sb).at j)) = _
 rw [← tur_get' hk hv, getL_at (n := 0) rfl h3]
theorem st_back (hs : validG ⟨sb, scs⟩ = true) (hk : inT k) (hG : validG ⟨sb, G⟩ = true)
 (hH : ∀ q, (tg2 sb k a).has q = true → getL (tg2 sb k a) H q = getL sb scs (sr2 sb k a q).1) : wrL sb G (chL sb G (cpF (tg2 sb k a) H (tg2 sb k a) (ivB k) (mnP sb))) = scs := by
 refine getL_ext (b := sb) (by rw [wr_len]; exact val_len hG) (val_len hs) fun q hq => ?_
 rw [st_get hG hq, back_sr hk hq]
 show getL (tg2 sb k a) H (pl2 sb k a q).1 = _
 rw [hH _ (tg_has hk hq), sr_pl hk hq]
theorem tg_ne (hk : inT k) (n : neX b) : neX (tg2 b k a) := by
 rw [tg_sh hk n]
 exact ne_sh.2 (ne_tur hk n)
end
end Vc
end Go.Proofs.YtaacclebncplbaaGreatDoor
namespace Go.Proofs.YtaacclebncplbaaGreatDoor
namespace Vc
open Go Go.RowKit
set_option linter.unusedVariables false
def nIb (m n : Int) : Bool := decide (-m ≤ n) && decide (n ≤ m)
def nPb (m : Int) (p : Pt) : Bool := nIb m p.1 && nIb m p.2.1 && nIb m p.2.2
def nBb (m : Int) (b : Bx) : Bool := (nIb m b.a && nIb m b.b && nIb m b.c) && nIb m b.d && nIb m b.e && nIb m b.f
theorem nI_of {m n : Int} (h : nIb m n = true) : nI m n := by
 unfold nIb at h
 rw [Bool.and_eq_true] at h
 exact ⟨of_decide_eq_true h.1, of_decide_eq_true h.2⟩
theorem nP_of {m : Int} {p : Pt} (h : nPb m p = true) : nP m p := by
 unfold nPb at h
 simp only [Bool.and_eq_true] at h
 exact ⟨nI_of h.1.1, nI_of h.1.2, nI_of h.2⟩
theorem nB_of {m : Int} {b : Bx} (h : nBb m b = true) : nB m b := by
 unfold nBb at h
 simp only [Bool.and_eq_true] at h
 exact ⟨⟨nI_of h.1.1.1.1.1, nI_of h.1.1.1.1.2, nI_of h.1.1.1.2⟩, nI_of h.1.1.2, nI_of h.1.2, nI_of h.2⟩
def chgD (c : Ch) : Bool := decide (-1048576 ≤ c.1.1) && decide (c.1.1 ≤ 1048576) && decide (-1048576 ≤ c.1.2.1) && decide (c.1.2.1 ≤ 1048576) && decide (-1048576 ≤ c.1.2.2) && decide (c.1.2.2 ≤ 1048576) && matB c.2.2
def Pbx : Nat → List X → Bool
 | 710, a :: b :: c :: d :: e :: f :: l :: _ => validG (grX a b c d e f l)
 | 711, [a, b, c, d, e, f, l, a', b', c', d', e', f', l'] => validG (grX a b c d e f l) && validG (grX a' b' c' d' e' f' l')
 | 917, [a, b, c, d, e, f, l, w] => validG (grX a b c d e f l) && (lstX deC w).all chgD
 | 947, s :: a :: b :: c :: d :: e :: f :: l :: _ => validG (grX a b c d e f l)
 | 1080, [a, b, c, d, e, f, k, x, y, z] => nBb 10000 (bxX a b c d e f) && nPb 10000 (x.i, y.i, z.i)
 | 1081, [a, b, c, d, e, f, k, x, y, z, u, v, w] => nBb 100000 (bxX a b c d e f) && nPb 100000 (x.i, y.i, z.i)
 | 1082, [a, b, c, d, e, f, k, x, y, z, u, v, w] => nBb 10000 (bxX a b c d e f) && nPb 10000 (x.i, y.i, z.i)
 | 1083, [a, b, c, d, e, f, l, a', b', c', d', e', f', k, x, y, z] => validG (grX a b c d e f l) && (nBb 10000 (bxX a' b' c' d' e' f') && nPb 10000 (x.i, y.i, z.i))
 | 1084, [a, b, c, d, e, f, l, a', b', c', d', e', f', l', k, x, y, z] => validG (grX a b c d e f l) && (validG (grX a' b' c' d' e' f' l') && (nBb 10000 (bxX a' b' c' d' e' f') && nPb 10000 (x.i, y.i, z.i)))
 | 1085, [a, b, c, d, e, f, l, a', b', c', d', e', f', l', a2, b2, c2, d2, e2, f2] => validG (grX a b c d e f l) && (validG (grX a' b' c' d' e' f' l') && (nBb 10000 (bxX a' b' c' d' e' f') && nBb 10000 (bxX a2 b2 c2 d2 e2 f2)))
 | _, _ => false
theorem pbx_ok : ∀ k ds, Pbx k ds = true → ρ0.p k ds := fun k ds h => by
 unfold Pbx at h
 split at h
 ·exact h
 ·exact (Bool.and_eq_true ..).mp h
 ·rename_i a b c d e f l w
  rw [Bool.and_eq_true] at h
  refine ⟨h.1, fun k hk => ?_⟩
  have h2 := List.all_eq_true.1 h.2 _ (lx_mem (dec := deC) (l := w) (k := k) (by omega) hk)
  unfold chgD at h2
  simp only [Bool.and_eq_true, decide_eq_true_eq] at h2
  exact ⟨⟨h2.1.1.1.1.1.1, h2.1.1.1.1.1.2⟩, ⟨h2.1.1.1.1.2, h2.1.1.1.2⟩, ⟨h2.1.1.2, h2.1.2⟩, h2.2⟩
 ·exact h
 ·rw [Bool.and_eq_true] at h
  exact ⟨nB_of h.1, nP_of h.2⟩
 ·rw [Bool.and_eq_true] at h
  exact ⟨nB_of h.1, nP_of h.2⟩
 ·rw [Bool.and_eq_true] at h
  exact ⟨nB_of h.1, nP_of h.2⟩
 ·rw [Bool.and_eq_true, Bool.and_eq_true] at h
  exact ⟨h.1, nB_of h.2.1, nP_of h.2.2⟩
 ·rw [Bool.and_eq_true, Bool.and_eq_true, Bool.and_eq_true] at h
  exact ⟨h.1, h.2.1, nB_of h.2.2.1, nP_of h.2.2.2⟩
 ·rw [Bool.and_eq_true, Bool.and_eq_true, Bool.and_eq_true] at h
  exact ⟨h.1, h.2.1, nB_of h.2.2.1, nB_of h.2.2.2⟩
 ·cases h
noncomputable def cfB (cs : List Ctr) (rs : List RCtr) (sm : List FuncId) : Cfg := { cfP fnL (some Ff) cs rs [] sm with Pb := Pbx }
theorem cfB_ok {cs : List Ctr} {rs : List RCtr} {sm : List FuncId} (h : KeepL cs) (hr : KeepR rs) : CfgOk Tryz.prog ρ0 (cfB cs rs sm) :=
 have k := cfG_ok (F := some Ff) (ls := []) (sm := sm) h hr someF
 { eq := k.eq, globs := k.globs, F := k.F, mixed := k.mixed, fns := k.fns, ctr := k.ctr, fn := k.fn, rctr := k.rctr, pb := pbx_ok }
def rS : List RCtr := [cNewR, cSetR, cCropR, cTurGR, cSmC, cCpy, cStm, cRep, cPlc, cSrc, cTgt, cTns, cLik, cCan]
theorem keepRS : KeepR rS := (((((((((((((keepR0.cons kCan nCan).cons kLik nLik).cons kTns nTns).cons kTgt nTgt).cons kSrc nSrc).cons kPlc nPlc).cons kRep nRep).cons kStm nStm).cons kCpy nCpy).cons kSmC nSmC).cons kTurGR nTurGR).cons kCropR nCropR).cons kSetR nSetR).cons kNewR nNewR
theorem sane_law : (walkF Tryz.prog (cfB [] rS sumC) Tryz.f9 2000 []).isT1 = true := by kernel_rfl
def cSane : Ctr := ⟨9, [], .one (.cst (.bool true)), none, 0⟩
theorem kSane : CtrOk Tryz.prog ρ0 cSane := ctr_true (cfB_ok keep0 keepRS) Tryz.func9 rfl 2000 0 sane_law
theorem nSane : ∃ fn, Tryz.prog.funcs[cSane.f]? = some fn ∧ fn.body.isSome = true ∧ (fn.name == "runtime.NumGoroutine") = false := ⟨_, Tryz.func9, by kernel_rfl, by kernel_rfl⟩
end Vc
end Go.Proofs.YtaacclebncplbaaGreatDoor
