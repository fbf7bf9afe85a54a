/- Layer 7: the functions of the great law: contracts, loops, plain lemmas. -/
import Derived.Test.YtaacclebncplbaaGreatDoorC07Za
namespace Go.Proofs.YtaacclebncplbaaGreatDoor
namespace Vc
open Go Go.RowKit
set_option linter.unusedVariables false
def RB20 : RSh := .agg [KR20, KR20, KR20, KR20, KR20, KR20]
def shFil : List RSh := [RGv, RB20, RMa]
def lpFilR : List LSpec := [⟨[0, 0], 20, [(.tmp 8, 0, 2097152)], [(.cell 7 6, 3, SMat, 2097152)], exs 14, 985, 985⟩]
def cWrR : RCtr := ⟨30, [RGw, RCh], .agg PG, some 917, 910⟩
def lpWrR : List LSpec := [⟨[0, 0], 20, [(.tmp 6, 0, maxLen)], [(.cell 7 6, 3, SMat, 2097152)], exs 8, 973, 973⟩]
def cShfR : RCtr := ⟨36, [RGw, RPw], .agg [PS21, PS21, PS21, PS21, PS21, PS21, .row 3 SMat 2097152], some 710, 930⟩
def cTurGR : RCtr := ⟨32, [.one K64, RGw], .agg PG, some 947, 940⟩
def lpTurGR : List LSpec := [⟨[0, 0], 20, [(.tmp 6, 0, 2097152)], [(.cell 6 6, 3, SMat, 2097152)], exs 8, 979, 979⟩]
def SDr : List Sk := [.int .i64 (-1048575) 1048575, .int .i64 (-1048575) 1048575, .int .i64 (-1048575) 1048575, .int .i64 0 255, .int .i64 0 255]
def cDifR : RCtr := ⟨46, [RGw, RGw], .one (.row 67 SDr 2097152), some 711, 950⟩
def lpDifR : List LSpec := [⟨[0, 0], 20, [(.tmp 6, 0, 2097152)], [(.tmp 5, 67, SDr, 2097152)], exs 14, 989, 989⟩]
def cSmC : RCtr := ⟨16, [RCh, RCh], .one .bool, none, 951⟩
def lpSmC : List LSpec := [⟨[0, 0], 20, [(.tmp 5, 0, maxLen)], [], exs 2, 990, 990⟩]
theorem fil_rsh (ds : Ds) (h : rshX [RGw, RB64, RMa] ds) (hp : Px 994 ds) : rshX shFil ds := by
 have h0 := rshX_flat h
 match ds, h0, h, hp with
 | [a, b, c, d, e, f, l, a', b', c', d', e', f', n], h0, h, hp =>
  obtain ⟨k1, k2⟩ := hp
  obtain ⟨q1, q2, q3⟩ := val_rsh (rest := [RB64, RMa]) _ h k1
  obtain ⟨⟨e0, e1, e2, e3, e4, e5, _⟩, e6, e7⟩ := q3
  have k : (bxI a'.i b'.i c'.i d'.i e'.i f'.i).in20 = true := k2
  have k := in20_iff.1 k
  exact ⟨q1, q2, ⟨⟨e0.1, k.1⟩, ⟨e1.1, k.2.1⟩, ⟨e2.1, k.2.2.1⟩, ⟨e3.1, k.2.2.2.1⟩, ⟨e4.1, k.2.2.2.2.1⟩, ⟨e5.1, k.2.2.2.2.2⟩, trivial⟩, e6, e7⟩
section
variable {b b' : Bx} {l o : X} {p : Pt} {x y z n k : Int} {cs cs' : List Int}
theorem fil_congr {S T : Pt → Bool} (hv : b.vol = l.i) (h : filI b l b' n S o) (he : ∀ p, (b.int b').has p = true → S p = T p) : filI b l b' n T o := ⟨h.1, fun i hi => by
 rw [h.2 i hi]
 cases hb : b'.has (b.at i) with
 | false => rfl
 | true => rw [he _ (int_has.2 ⟨at_has (by omega) (by omega), hb⟩)]⟩
theorem fil_none (hi : l.i = l.i) : filI b l b' n (fun _ => false) l := ⟨rfl, fun i hi => by
 rw [Bool.and_false]
 rfl⟩
theorem sX_step (h : p ≠ (x, y, z)) : sX (x + 1) y z p = sX x y z p := by
 have ne : ¬ (p.1 = x ∧ p.2.1 = y ∧ p.2.2 = z) := fun e => h (Prod.ext e.1 (Prod.ext e.2.1 e.2.2))
 unfold sX
 rw [Bool.eq_iff_iff]
 simp only [Bool.or_eq_true, Bool.and_eq_true, decide_eq_true_eq]
 omega
theorem sX_at : sX (x + 1) y z (x, y, z) = true := by
 unfold sX
 simp only [Bool.or_eq_true, Bool.and_eq_true, decide_eq_true_eq]
 exact .inr ⟨trivial, .inr ⟨trivial, show x < x + 1 by omega⟩⟩
theorem fil_step {r : Int → Int → Y} (hv : b.vol = l.i) (hp : (b.int b').has (x, y, z) = true) (hk : k = b.idx (x, y, z)) (h : filI b l b' n (sX x y z) o)
 (hr : ∀ i : Int, (r i 0).i = if i = k then n else (o.r i 0).i) : filI b l b' n (sX (x + 1) y z) (mkX r o.i) := by
 refine ⟨h.1, fun i hi => ?_⟩
 show (r i 0).i = _
 rw [hr i]
 obtain ⟨h1, h2⟩ := int_has.1 hp
 by_cases e : (i : Int) = k
 ·have ea : b.at i = (x, y, z) := by rw [e, hk]; exact at_idx h1
  rw [if_pos e, ea, sX_at, h2]
  rfl
 ·have ne : b.at i ≠ (x, y, z) := fun ea => by
   have := idx_at (b := b) (i := (i : Int)) (by omega) (by omega)
   rw [ea] at this
   omega
  rw [if_neg e, h.2 i hi, sX_step ne]
theorem set_i {r : Int → Int → Y} {v : X} {i : Int} : (rwSet r k 0 v i 0).i = if i = k then v.i else (r i 0).i := by
 show (if i = k ∧ (0 : Int) = 0 then v.y else r i 0).i = _
 by_cases e : i = k
 ·rw [if_pos ⟨e, rfl⟩, if_pos e]
  rfl
 ·rw [if_neg (fun h => e h.1), if_neg e]
theorem filL_of (ho : o.i = l.i) (h : ∀ j : Nat, (j : Int) < l.i → (o.r j 0).i = if b'.has (b.at j) = true then n else (l.r j 0).i) : lstX deI o = filL b (lstX deI l) b' n := by
 refine ext_getD 0 (by unfold filL; rw [List.length_map, List.length_range, lstX_len, lstX_len, ho]) fun j hj => ?_
 rw [lstX_len] at hj
 have hj' : (j : Int) < l.i := by omega
 rw [lxI_getD (by omega), h j hj']
 unfold filL
 rw [List.getD_eq_getElem?_getD, List.getElem?_map, List.getElem?_range (by rw [lstX_len]; omega)]
 show _ = if b'.has (b.at j) = true then n else (lstX deI l).getD j 0
 rw [lxI_getD hj']
theorem fil_end {S : Pt → Bool} (hv : b.vol = l.i) (h : filI b l b' n S o) (hS : ∀ p, (b.int b').has p = true → S p = true) : lstX deI (mkX o.r o.i) = filL b (lstX deI l) b' n :=
 filL_of (o := mkX o.r o.i) h.1 fun j hj => by
  show (o.r j 0).i = _
  rw [h.2 j hj]
  cases hb : b'.has (b.at j) with
  | false => rfl
  | true => rw [hS _ (int_has.2 ⟨at_has (by omega) (by omega), hb⟩)]; rfl
theorem fil_len : (filL b cs b' n).length = cs.length := by unfold filL; rw [List.length_map, List.length_range]
theorem difN_step (h0 : 0 ≤ k) : (List.range (k + 1).toNat).filterMap (difP b cs b' cs') = (List.range k.toNat).filterMap (difP b cs b' cs') ++ (difP b cs b' cs' k.toNat).toList := by
 rw [toS7 h0, List.range_succ, List.filterMap_append]
 congr 1
theorem difN_len (h0 : 0 ≤ k) : (((List.range k.toNat).filterMap (difP b cs b' cs')).length : Int) ≤ k := by
 have := List.length_filterMap_le (difP b cs b' cs') (List.range k.toNat)
 rw [List.length_range] at this
 omega
theorem lstC_eq {v w : X} (h0 : 0 ≤ v.i) (h1 : 0 ≤ w.i) : lstX deC v = lstX deC w ↔ v.i = w.i ∧ ∀ j : Nat, (j : Int) < v.i → deC (v.r j) = deC (w.r j) := by
 constructor
 ·intro h
  have hl := congrArg List.length h
  rw [lstX_len, lstX_len] at hl
  have e : v.i = w.i := by omega
  refine ⟨e, fun j hj => ?_⟩
  have h2 := congrArg (fun l => l[j]?) h
  rw [lstX_get (by omega), lstX_get (by omega)] at h2
  exact Option.some.inj h2
 ·intro h
  exact lstX_ext (by omega) fun i hi => h.2 i (by omega)
end
end Vc
end Go.Proofs.YtaacclebncplbaaGreatDoor
