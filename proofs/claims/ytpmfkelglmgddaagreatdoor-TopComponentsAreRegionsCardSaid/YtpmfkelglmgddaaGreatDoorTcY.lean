/- slices.SortFunc at squares: the closure by a walk, the sort by the library's contract. -/
import Derived.Test.YtpmfkelglmgddaaGreatDoorTcC
import Derived.Test.YtpmfkelglmgddaaGreatDoorChecked
import Derived.Outline
import Derived.Deep.QuietTactic
import Derived.BigQuiet
import Derived.StillTailTactics
import Derived.Sort.Grow
import Derived.WalkLawsBesides
import Derived.Handy
import Derived.Shelf.SlGeneric
import Derived.Shelf.SlSortCmp.NoneTotal
import Derived.Ground.SlsfProg
import Derived.Test.YtpmfkelglmgddaaGreatDoorTcK
namespace Go.Proofs.YtpmfkelglmgddaaGreatDoor
namespace Vc
open Go Go.RowKit Go.Sort Go.Proofs
set_option linter.unusedVariables false
set_option linter.unusedSimpArgs false
theorem uB (x : Int) (w : World) : Calls Tryz.prog 76 #[.int .i64 x] w fun e w' => e = .returned (.bool false) ∧ w = w' := by
 go_enter Tryz.func76, Tryz.ntmps76
 go_wp2
 go_ret
 simp
theorem wE (x y : Int) (w : World) : Calls Tryz.prog 50 #[.int .i64 x, .int .i64 y] w fun e w' => e = .returned (.int .i64 (if x < y then -1 else if y < x then 1 else 0)) ∧ w = w' := by
 by_cases h : x < y
 ·go_enter Tryz.func50, Tryz.ntmps50
  go_wp2_with (go_at_call 76; refine (uB _ _).mono ?_; rintro e w' ⟨rfl, rfl⟩)
  go_ret
  simp [h]
 ·by_cases h2 : y < x
  ·go_enter Tryz.func50, Tryz.ntmps50
   go_wp2_with (go_at_call 76; refine (uB _ _).mono ?_; rintro e w' ⟨rfl, rfl⟩)
   go_ret
   simp [h, h2]
  ·go_enter Tryz.func50, Tryz.ntmps50
   go_wp2_with (go_at_call 76; refine (uB _ _).mono ?_; rintro e w' ⟨rfl, rfl⟩)
   go_ret
   simp [h, h2]
theorem Lu (a b c d : Int) (B : Nat) (w : World) (h0 : w.cell? ⟨B, 0, none⟩ = some (.int .i64 a)) (h1 : w.cell? ⟨B, 1, none⟩ = some (.int .i64 b)) (h2 : w.cell? ⟨B, 2, none⟩ = some (.int .i64 c)) (h3 : w.cell? ⟨B, 3, none⟩ = some (.int .i64 d)) :
 Calls Tryz.prog 49 #[.slice (some ⟨B, 0, none⟩) 4 4] w fun e w' => e = .returned (.int .i64 (I6 a b c d)) ∧ w = w' := by
 by_cases ha : a = 0
 ·subst ha
  by_cases hb : b = 0
  ·subst hb
   by_cases hc : c = 0
   ·subst hc
    by_cases hd : d = 0
    ·subst hd
     go_enter Tryz.func49, Tryz.ntmps49
     go_wp2
     go_rounds 5
     go_ret
     simp [I6]
    ·have q1 : (d == 0) = false := by simpa using hd
     have q2 : (d != 0) = true := by simpa using hd
     go_enter Tryz.func49, Tryz.ntmps49
     go_wp2
     go_rounds 5
     go_ret
     simp [I6, hd]
   ·have q1 : (c == 0) = false := by simpa using hc
    have q2 : (c != 0) = true := by simpa using hc
    go_enter Tryz.func49, Tryz.ntmps49
    go_wp2
    go_rounds 5
    go_ret
    simp [I6, hc]
  ·have q1 : (b == 0) = false := by simpa using hb
   have q2 : (b != 0) = true := by simpa using hb
   go_enter Tryz.func49, Tryz.ntmps49
   go_wp2
   go_rounds 5
   go_ret
   simp [I6, hb]
 ·have ha' : (a == 0) = false := by simpa using ha
  have ha2 : (a != 0) = true := by simpa using ha
  go_enter Tryz.func49, Tryz.ntmps49
  go_wp2
  go_rounds 5
  go_ret
  simp [I6, ha]
def jd (q : Qd) : List Value := [.int .i64 q.1, .int .i64 q.2.1, .int .i64 q.2.2.1, .int .i64 q.2.2.2.1, .bool q.2.2.2.2.1, .int .i64 q.2.2.2.2.2]
theorem B8 (x y : Int) (w : World) : Calls Tryz.prog 50 #[.int .i64 x, .int .i64 y] w fun e w' => e = .returned (.int .i64 (oy x y)) ∧ w' = w := (wE x y w).mono fun _ _ h => ⟨h.1, h.2.symm⟩
set_option maxRecDepth 100000 in
set_option maxHeartbeats 1000000 in
theorem HP (a b : Qd) (W : World) : Calls Tryz.prog 48 #[.agg (jd a).toArray, .agg (jd b).toArray] W fun e w' => e = .returned (.int .i64 (lO a b)) ∧ ∃ q os', w' = grow (W.drewN q) os' := by
 obtain ⟨a0, a1, a2, a3, a4, a5⟩ := a
 obtain ⟨b0, b1, b2, b3, b4, b5⟩ := b
 unfold jd lO
 simp only
 go_enter Tryz.func48, Tryz.ntmps48
 go_wp2
 obtain ⟨w1, hw1⟩ : ∃ w1, w1 = (W.alloc (.cells #[.int .i64 a0, .int .i64 a1, .int .i64 a2, .int .i64 a3, .bool a4, .int .i64 a5] 49)).alloc (.cells #[.int .i64 b0, .int .i64 b1, .int .i64 b2, .int .i64 b3, .bool b4, .int .i64 b5] 49) := ⟨_, rfl⟩
 rw [← hw1]
 have c0 : w1.drew.cell? ⟨W.heap.size, 0, none⟩ = some (.int .i64 a0) := by rw [hw1]; go_simp
 have c1 : w1.drew.cell? ⟨W.heap.size, 1, none⟩ = some (.int .i64 a1) := by rw [hw1]; go_simp
 have c2 : w1.drew.cell? ⟨W.heap.size, 2, none⟩ = some (.int .i64 a2) := by rw [hw1]; go_simp
 have c3 : w1.drew.cell? ⟨W.heap.size, 3, none⟩ = some (.int .i64 a3) := by rw [hw1]; go_simp
 have d0 : w1.drew.cell? ⟨W.heap.size + 1, 0, none⟩ = some (.int .i64 b0) := by rw [hw1]; go_simp
 have d1 : w1.drew.cell? ⟨W.heap.size + 1, 1, none⟩ = some (.int .i64 b1) := by rw [hw1]; go_simp
 have d2 : w1.drew.cell? ⟨W.heap.size + 1, 2, none⟩ = some (.int .i64 b2) := by rw [hw1]; go_simp
 have d3 : w1.drew.cell? ⟨W.heap.size + 1, 3, none⟩ = some (.int .i64 b3) := by rw [hw1]; go_simp
 have hgr : ∃ q os', w1.drew = grow (W.drewN q) os' := ⟨1, #[_, _], by rw [hw1, alloc_eq_grow, alloc_eq_grow, grow_grow]; rfl⟩
 refine wp_region_still_tail 26 (by kernel_rfl) (by kernel_rfl) ?_
 simp only [List.take_succ_cons, List.take_zero, List.drop_succ_cons, List.drop_zero]
 change wpStill _ _ w1.drew (fun a' => wpList _ _ _ _ a' w1.drew) _ _
 generalize w1.drew = w2 at *
 clear hw1
 repeat (first | still_step | still_call (B8 _ _ _))
 refine wpStill_nil ?_
 generalize h3 : oy a3 b3 = r3
 generalize h2 : oy a2 b2 = r2
 generalize h1 : oy a1 b1 = r1
 generalize h0 : oy a0 b0 = r0
 clear c0 c1 c2 c3 d0 d1 d2 d3
 go_wp2_with (go_at_call 49; refine (Lu r3 r2 r1 r0 w2.heap.size _ ?_ ?_ ?_ ?_).mono ?_; go_simp; go_simp; go_simp; go_simp; rintro e w' ⟨rfl, rfl⟩)
 go_ret
 refine ⟨by rw [h0, h1, h2, h3]; rfl, ?_⟩
 obtain ⟨q, os', h⟩ := hgr
 exact ⟨q, os' ++ #[_], by rw [alloc_eq_grow, h, grow_grow]⟩
theorem Ey (ji off size : Nat) (w : World) : CmpLays Tryz.prog 48 #[] jd 6 lO ji off size w := fun _ _ _ _ x y => HP x y _
open Go.Shelf in
def wF : Go.Shelf.Ren := ⟨fun | 6 => 47 | 15 => 75 | 14 => 74 | 28 => 103 | 29 => 104 | 20 => 95 | 21 => 96 | 22 => 97 | 23 => 98 | 24 => 99 | 25 => 100 | 26 => 101 | 27 => 102 | 46 => 109 | 47 => 110 | 48 => 111 | 49 => 112 | 50 => 113 | 57 => 114 | n => n, fun | 22 => 36 | 24 => 49 | 25 => 112 | 3 => 3 | 39 => 123 | 0 => 0 | 53 => 152 | 55 => 155 | 4 => 4 | 46 => 167 | 45 => 166 | 50 => 126 | 5 => 5 | 9 => 9 | 66 => 177 | 70 => 181 | 76 => 183 | 77 => 149 | n => n, fun | n => n⟩
open Go.Shelf in
theorem AE : Go.Proofs.SlLaysF0.n6 Tryz.prog wF := {
 mixed := by kernel_rfl
 f6 := ⟨Tryz.f47.name, by decide, Tryz.func47.trans (congrArg some (by kernel_rfl))⟩
 f14 := ⟨Tryz.f74.name, by decide, Tryz.func74.trans (congrArg some (by kernel_rfl))⟩
 f15 := Tryz.func75.trans (congrArg some (by kernel_rfl))
 f20 := ⟨Tryz.f95.name, by decide, Tryz.func95.trans (congrArg some (by kernel_rfl))⟩
 f21 := ⟨Tryz.f96.name, by decide, Tryz.func96.trans (congrArg some (by kernel_rfl))⟩
 f22 := ⟨Tryz.f97.name, by decide, Tryz.func97.trans (congrArg some (by kernel_rfl))⟩
 f23 := ⟨Tryz.f98.name, by decide, Tryz.func98.trans (congrArg some (by kernel_rfl))⟩
 f24 := ⟨Tryz.f99.name, by decide, Tryz.func99.trans (congrArg some (by kernel_rfl))⟩
 f25 := ⟨Tryz.f100.name, by decide, Tryz.func100.trans (congrArg some (by kernel_rfl))⟩
 f26 := ⟨Tryz.f101.name, by decide, Tryz.func101.trans (congrArg some (by kernel_rfl))⟩
 f27 := ⟨Tryz.f102.name, by decide, Tryz.func102.trans (congrArg some (by kernel_rfl))⟩
 f28 := Tryz.func103.trans (congrArg some (by kernel_rfl))
 f29 := Tryz.func104.trans (congrArg some (by kernel_rfl))
 f46 := ⟨Tryz.f109.name, by decide, Tryz.func109.trans (congrArg some (by kernel_rfl))⟩
 f47 := Tryz.func110.trans (congrArg some (by kernel_rfl))
 f48 := Tryz.func111.trans (congrArg some (by kernel_rfl))
 f49 := ⟨Tryz.f112.name, by decide, Tryz.func112.trans (congrArg some (by kernel_rfl))⟩
 f50 := ⟨Tryz.f113.name, by decide, Tryz.func113.trans (congrArg some (by kernel_rfl))⟩
 f57 := ⟨Tryz.f114.name, by decide, Tryz.func114.trans (congrArg some (by kernel_rfl))⟩
 t0 := Tryz.underlying0
 a0 := Tryz.isAgg0
 z0 := Tryz.sizeOf0
 v0 := Tryz.zeroValue0
 t3 := Tryz.underlying3
 a3 := Tryz.isAgg3
 z3 := Tryz.sizeOf3
 v3 := Tryz.zeroValue3
 t4 := Tryz.underlying4
 a4 := Tryz.isAgg4
 z4 := Tryz.sizeOf4
 v4 := Tryz.zeroValue4
 t5 := Tryz.underlying5
 a5 := Tryz.isAgg5
 z5 := Tryz.sizeOf5
 v5 := Tryz.zeroValue5
 t9 := Tryz.underlying9
 a9 := Tryz.isAgg9
 z9 := Tryz.sizeOf9
 v9 := Tryz.zeroValue9
 t22 := Tryz.underlying36
 a22 := Tryz.isAgg36
 z22 := Tryz.sizeOf36
 v22 := Tryz.zeroValue36
 t25 := Tryz.underlying112
 a25 := Tryz.isAgg112
 z25 := Tryz.sizeOf112
 v25 := Tryz.zeroValue112
 t39 := Tryz.underlying123
 a39 := Tryz.isAgg123
 z39 := Tryz.sizeOf123
 v39 := Tryz.zeroValue123
 t45 := Tryz.underlying166
 a45 := Tryz.isAgg166
 z45 := Tryz.sizeOf166
 v45 := Tryz.zeroValue166
 t46 := Tryz.underlying167
 a46 := Tryz.isAgg167
 z46 := Tryz.sizeOf167
 v46 := Tryz.zeroValue167
 t50 := Tryz.underlying126
 a50 := Tryz.isAgg126
 z50 := Tryz.sizeOf126
 v50 := Tryz.zeroValue126
 t53 := Tryz.underlying152
 a53 := Tryz.isAgg152
 z53 := Tryz.sizeOf152
 v53 := Tryz.zeroValue152
 t55 := Tryz.underlying155
 a55 := Tryz.isAgg155
 z55 := Tryz.sizeOf155
 v55 := Tryz.zeroValue155
 t66 := Tryz.underlying177
 a66 := Tryz.isAgg177
 z66 := Tryz.sizeOf177
 v66 := Tryz.zeroValue177
 t70 := Tryz.underlying181
 a70 := Tryz.isAgg181
 z70 := Tryz.sizeOf181
 v70 := Tryz.zeroValue181
 t76 := Tryz.underlying183
 a76 := Tryz.isAgg183
 z76 := Tryz.sizeOf183
 v76 := Tryz.zeroValue183
 t77 := Tryz.underlying149
 a77 := Tryz.isAgg149
 z77 := Tryz.sizeOf149
 v77 := Tryz.zeroValue149 }
theorem lZ (x y : Int) : (oy x y < 0 ↔ x < y) ∧ (oy x y = 0 ↔ x = y) := by
 unfold oy
 split
 ·omega
 ·split <;> omega
theorem qo (a b : Qd) : lO a b < 0 ↔ (a.2.2.2.1 < b.2.2.2.1 ∨ (a.2.2.2.1 = b.2.2.2.1 ∧ (a.2.2.1 < b.2.2.1 ∨ (a.2.2.1 = b.2.2.1 ∧ (a.2.1 < b.2.1 ∨ (a.2.1 = b.2.1 ∧ a.1 < b.1)))))) := by
 obtain ⟨p1, p2⟩ := lZ a.2.2.2.1 b.2.2.2.1
 obtain ⟨q1, q2⟩ := lZ a.2.2.1 b.2.2.1
 obtain ⟨r1, r2⟩ := lZ a.2.1 b.2.1
 obtain ⟨s1, s2⟩ := lZ a.1 b.1
 unfold lO I6
 split
 ·omega
 ·split
  ·omega
  ·split <;> omega
theorem AG : SWO (ltOf lO) where
 irrefl := fun x => decide_eq_false (by rw [qo]; omega)
 trans := fun x y z h1 h2 => by
  have h1 := of_decide_eq_true h1
  have h2 := of_decide_eq_true h2
  refine decide_eq_true ?_
  rw [qo] at *
  omega
 ntrans := fun x y z h1 h2 => by
  have h1 := of_decide_eq_false h1
  have h2 := of_decide_eq_false h2
  refine decide_eq_false ?_
  rw [qo] at *
  omega
theorem HQ (f : Int → Y) : jd (aQ f) = gk iO f 0 := rfl
theorem wG (q : Qd) : gk iO (cG q) 0 = jd q := rfl
theorem gG (q : Qd) : aQ (cG q) = q := rfl
theorem cq (l : List Qd) : (dT l).Perm l := by
 have h := (pdq_sorts (ltOf lO) AG l.toArray 0 l.toArray.size (Go.Lib.bitLen l.toArray.size) true true (Nat.zero_le _) (Nat.le_refl _) (Or.inl rfl)).1
 obtain ⟨h1, _, h3⟩ := h
 have e : dT l = (pdq (ltOf lO) l.toArray 0 l.toArray.size (Go.Lib.bitLen l.toArray.size) true true).toList := rfl
 rw [e]
 generalize pdq (ltOf lO) l.toArray 0 l.toArray.size (Go.Lib.bitLen l.toArray.size) true true = d' at *
 have e1 : d'.extract 0 l.toArray.size = d' := by rw [← h1]; simp
 have e2 : l.toArray.extract 0 l.toArray.size = l.toArray := by simp
 rw [e1, e2] at h3
 simpa using h3
theorem wH (d : Array Qd) : (flatK jd 6 d).toList = aO iO (bh cG d.toList).r d.size := by
 refine ma (by rw [Array.length_toList, size_flatK]; rfl) fun i j s hi hj => ?_
 have hl : j < 6 := (List.getElem?_eq_some_iff.1 hj).1
 have lt : i * 6 + j < d.size * 6 := by omega
 have e := get_flatK jd 6 d (i * 6 + j) lt
 rw [show (i * 6 + j) / 6 = i by omega, show (i * 6 + j) % 6 = j by omega] at e
 show (flatK jd 6 d).toList[i * 6 + j]? = _
 rw [Array.getElem?_toList, Array.getElem?_eq_getElem (by rw [size_flatK]; exact lt)]
 rw [getElem!_pos _ _ (by rw [size_flatK]; exact lt)] at e
 rw [e]
 have hr : ∀ p : Int, (bh cG d.toList).r i p = cG d[i]! p := fun p => by
  have e : d.toList[i]? = some d[i]! := by rw [Array.getElem?_toList, Array.getElem?_eq_getElem hi, getElem!_pos d i hi]
  unfold bh
  simp only [Int.toNat_natCast, e]
 rw [hr]
 have g := jZ iO (cG d[i]!) 0 j
 rw [hj, wG, Int.zero_add] at g
 have hl2 : j < (jd d[i]!).length := hl
 rw [getElem!_pos (jd d[i]!) j hl2, ← List.getElem?_eq_getElem hl2, g]
 rfl
theorem HR (R : Int → Int → Y) (n : Nat) : aO iO R n = aO iO (bh cG (ae aQ (aH R n))).r n := by
 refine bQ fun i hi => ?_
 have hi' : i < (aH R (n : Int)).i.toNat := hi
 have hr : (bh cG (ae aQ (aH R n))).r i = cG (aQ (R i)) := by
  funext p
  unfold bh
  simp only [Int.toNat_natCast, bu hi']
  rfl
 rw [hr, wG, HQ]
theorem yI (args : Array Value) (w : World) : (callFunc 48 args).run Tryz.prog w = .ok (.enter 48 args) w := enters_of Tryz.func48 (by kernel_rfl) rfl args w
theorem HS {w : World} {B c n : Nat} {A : Option Addr} {R : Int → Int → Y} (hm : n ≤ 1000000000) (hown : w.ownsRow B 49 6 (.slice A n c) n (aO iO R n)) :
 Calls Tryz.prog 47 #[.slice A n c, .func (.func 48) #[] #[]] w fun e w' => e = .returned (.tuple #[]) ∧ w.grownBy w' (Value.ownBlock (.slice A n c)) ∧ w'.ownsRow B 49 6 (.slice A n c) n (aO iO (bh cG (dT (ae aQ (aH R n)))).r n) := by
 rcases Nat.eq_zero_or_pos n with h0 | h0
 ·subst h0
  refine (AnyF.slices_SortFunc_none AE A c _ w).mono ?_
  rintro e w' ⟨rfl, rfl⟩
  exact ⟨rfl, ⟨rfl, rfl, rfl, Nat.le_refl _, fun _ _ _ => rfl⟩, hown⟩
 ·obtain ⟨hlen, hv⟩ := hown
  rcases hv with ⟨_, h⟩ | ⟨g, cap, cur, e, hb, hg, hn, hc, hs, ht⟩
  ·omega
  ·cases e
   obtain ⟨d, hd⟩ : ∃ d : Array Qd, d = (ae aQ (aH R n)).toArray := ⟨_, rfl⟩
   have hsz : d.size = n := by rw [hd, List.size_toArray, aK]; exact Int.toNat_natCast n
   have hfl : (flatK jd 6 d).toList = aO iO R n := by
    rw [wH, hsz, hd, HR R n]
   have hown : w.ownsRow B 49 6 (.slice (some ⟨g, 0, none⟩) n c) n (aO iO R n) := ⟨hlen, .inr ⟨g, c, cur, rfl, hb, hg, hn, hc, hs, ht⟩⟩
   have hH : HoldsK jd 6 w g 0 d := fun j hj => by
    rw [size_flatK, hsz] at hj
    rw [Nat.zero_add]
    refine ⟨?_, hown.frozenAt j⟩
    rw [hown.cellAt j hj, ← hfl, Array.getElem?_toList, Array.getElem?_eq_getElem (by rw [size_flatK, hsz]; exact hj), getElem!_pos _ _ (by rw [size_flatK, hsz]; exact hj)]
    rfl
   have hbl : g < w.heap.size := (Array.getElem?_eq_some_iff.1 hg).1
   have h := AnyQ.slices_SortFunc_eq AE 6 (fun w => Tryz.isAgg49 w) (fun w => Tryz.sizeOf49 w) jd (fun _ => rfl) (fun x v hv => by
    simp only [jd, List.mem_cons, List.not_mem_nil, or_false] at hv
    rcases hv with rfl | rfl | rfl | rfl | rfl | rfl <;> rfl) lO AG 48 #[] g 0 c d w yI (Ey g 0 d.size w) hH hbl (by omega)
   rw [hsz] at h
   refine h.mono ?_
   rintro e w' ⟨rfl, k, os, rfl⟩
   refine ⟨rfl, ?_, ?_⟩
   ·refine ⟨rfl, rfl, rfl, ?_, fun k hk hne => ?_⟩
    ·simp [sortWorldK, putRowK, grow]
    ·have hne : k ≠ g := fun e => hne (by rw [e]; rfl)
     show ((w.heap.modify g _) ++ os)[k]? = w.heap[k]?
     rw [Array.getElem?_append_left (by simpa using hk), Array.getElem?_modify, if_neg (Ne.symm hne)]
   ·have hl : (ae aQ (aH R n)).length = n := by rw [aK]; exact Int.toNat_natCast n
    have hq : (pdq (ltOf lO) d 0 n (Lib.bitLen n) true true).toList = dT (ae aQ (aH R n)) := by
     unfold dT
     rw [hl, ← hd]
     rfl
    have hs' : (pdq (ltOf lO) d 0 n (Lib.bitLen n) true true).size = n := by
     rw [← Array.length_toList, hq, (cq _).length_eq, hl]
    generalize pdq (ltOf lO) d 0 n (Lib.bitLen n) true true = d' at hq hs' ⊢
    have hr : aO iO (bh cG (dT (ae aQ (aH R n)))).r n = (flatK jd 6 d').toList := by rw [wH, hs', hq]
    have hz : (flatK jd 6 d').size = n * 6 := by rw [size_flatK, hs']
    rw [hr]
    obtain ⟨F, hF⟩ : ∃ F, F = flatK jd 6 d' := ⟨_, rfl⟩
    rw [← hF] at hz ⊢
    refine ⟨by rw [Array.length_toList, hz], .inr ⟨g, c, putCells id 0 F cur, rfl, hb, ?_, hn, hc, ?_, ?_⟩⟩
    ·show ((w.heap.modify g _) ++ os)[g]? = _
     rw [Array.getElem?_append_left (by simpa using hbl), Array.getElem?_modify, if_pos rfl, hg, hF]
     rfl
    ·simp [putCells, hs]
    ·have : n * 6 ≤ cur.size := by omega
     apply List.ext_getElem?
     intro j
     by_cases hj : j < n * 6
     ·rw [List.getElem?_take_of_lt hj, Array.getElem?_toList, Array.getElem?_toList]
      simp only [putCells, Array.getElem?_mapIdx]
      rw [Array.getElem?_eq_getElem (show j < cur.size by omega), Option.map_some, if_pos ⟨Nat.zero_le _, by omega⟩, Nat.sub_zero, getElem!_pos F j (by omega), Array.getElem?_eq_getElem (by omega)]
      rfl
     ·rw [List.getElem?_eq_none (by rw [List.length_take, Array.length_toList]; omega), List.getElem?_eq_none (by rw [Array.length_toList, hz]; omega)]
end Vc
end Go.Proofs.YtpmfkelglmgddaaGreatDoor
namespace Go.Proofs.YtpmfkelglmgddaaGreatDoor
namespace Vc
open Go Go.RowKit Go.Sort
set_option linter.unusedVariables false
set_option linter.unusedSimpArgs false
def wD : ku := fun P tm hp G o => match o.op with
 | .call { callee := .value f, args, .. } => (match cA tm G f with
  | some (.c (.fn 47 [] [])) => (match kS tm G args.toList with
   | some [.c (.ow l), .c (.fn 48 [] [])] => (match hp[l]? with
    | some ⟨true, ty, .row sh R n hi⟩ => if ty = 49 ∧ sh = iO ∧ hi ≤ 1000000 then some (.c .kW, hp.set l ⟨true, ty, .row sh (.app 925 (.cons (.eY R n) .nil)) n hi⟩, ⟨[], none⟩) else none
    | _ => none)
   | _ => none)
  | _ => none)
 | _ => none
theorem HT {R : Int → Int → Y} {n : Nat} (h : au iO R n) : au iO (bh cG (dT (ae aQ (aH R n)))).r n := fun i hi => by
 have hl : (dT (ae aQ (aH R n))).length = n := by rw [(cq _).length_eq, aK]; exact Int.toNat_natCast n
 obtain ⟨q, hq⟩ : ∃ q, (dT (ae aQ (aH R n)))[i]? = some q := ⟨_, List.getElem?_eq_getElem (by rw [hl]; exact hi)⟩
 have hm := (cq _).mem_iff.1 (List.mem_of_getElem? hq)
 unfold ae at hm
 obtain ⟨j, hj, rfl⟩ := List.mem_map.1 hm
 have hj : j < n := by simpa [aH] using hj
 have hr : (bh cG (dT (ae aQ (aH R n)))).r i = cG (aQ (R j)) := by
  funext p
  unfold bh
  simp only [Int.toNat_natCast, hq]
  rfl
 rw [hr]
 have g := h j hj
 simp only [iO, oF, dM, Int.zero_add] at g ⊢
 exact ⟨g.1, g.2.1, g.2.2.1, g.2.2.2.1, trivial, g.2.2.2.2.2.1, trivial⟩
theorem Lm {x : X} {l : List Qd} (h0 : 0 ≤ x.i) (h1 : x.i ≤ 3072) (h : ae aQ x = l) : cR iO (bh cG (dT l)) (bh cG (dT (ae aQ (aH x.r x.i)))).r x.i 3072 := by
 have e : x.i = (bh cG (dT (ae aQ x))).i := by
  rw [fg, (cq _).length_eq, aK]
  omega
 refine fM (dec := aQ) (fun f => ⟨rfl, rfl, rfl, rfl, rfl, rfl, trivial⟩) h0 h1 ?_
 rw [eW, e, eW, eu gG, h]
theorem yx {ρ : Env} {ls : Ls} {f : Nat} {v : Value} (h : RV ρ ls (.c (.fn f [] [])) v) : v = .func (.func f) #[] #[] := by
 obtain ⟨fs, cs, he, h1, h2⟩ := h
 have hfs : fs = [] := by cases fs with | nil => rfl | cons _ _ => exact h1.elim
 have hcs : cs = [] := by cases cs with | nil => rfl | cons _ _ => exact h2.elim
 subst hfs hcs
 exact he
theorem wh {P : Program} {K : Value → World → Prop} {dst : Option Tmp} {ty : TypeId} {pos : String} {after : Array Edge} {guard : Option (Nat × Bool)} {f : Operand} {args : Array Operand} {at_ : Array TypeId} {a : Act} {w : World} {g : FuncId} {fn : Func} {vs : List Value}
 (hf : a.eval f = .func (.func g) #[] #[]) (hv : args.toList.map a.eval = vs) (h1 : P.funcs[g]? = some fn) (h2 : fn.body.isSome = true) (h3 : (fn.name == "runtime.NumGoroutine") = false)
 (h : Calls P g vs.toArray w fun e w' => ∃ v, e = .returned v ∧ K v w') : gy P K ((execOp a.eval ⟨dst, .call { callee := .value f, args, argTypes := at_ }, ty, pos, after, guard⟩).run P w) := by
 have e : args.map a.eval = vs.toArray := by rw [← Array.toList_map] at hv; rw [← hv]
 have hrun : (execOp a.eval ⟨dst, .call { callee := .value f, args, argTypes := at_ }, ty, pos, after, guard⟩).run P w = .ok (.enter g vs.toArray) w := by
  simp only [execOp, resolve, hf, Deferred.ofValue, Sem.run_bind, Sem.run_pure, Result.andThen_ok, invoke, e]
  simp [bd h1 h2 h3]
 rw [hrun]
 exact h
theorem wI {A : Option Addr} {n c b : Nat} (h : Value.ownBlock (.slice A n c) = some b) : eK (some (.slice A n c)) b := by
 cases A with
 | none => cases h
 | some a => cases h; exact .inl rfl
section
variable {P : Program} (hP : P = Tryz.prog)
include hP
theorem Ez : fp P wD := fun x k ob tm hp G o s hp' ow h B w0 w ls a hw hr hG hh => by
 obtain ⟨ρ', hρ⟩ : ∃ ρ', ρ' = ρ0.sw x k ob := ⟨_, rfl⟩
 have hF : ρ'.f = Ff := by rw [hρ]; rfl
 rw [← hρ] at hw hr hG hh ⊢
 obtain ⟨dst, op, ty, pos, after, guard⟩ := o
 unfold wD at h
 simp only at h
 split at h
 ·rename_i f args at_
  split at h
  ·rename_i hf
   split at h
   ·rename_i l hvs
    split at h
    ·rename_i ty0 sh R n hi hl
     split at h
     ·rename_i hc
      cases h
      obtain ⟨rfl, rfl, hhi⟩ := hc
      have q := b8 hr hG hvs
      obtain ⟨va, vb, hab⟩ : ∃ va vb, args.toList.map a.eval = [va, vb] := by
       generalize args.toList.map a.eval = l2 at q
       match l2, q with
       | [u, v], _ => exact ⟨u, v, rfl⟩
      rw [hab] at q
      obtain ⟨⟨q1, _⟩, q2, _⟩ := q
      have q2 := yx q2
      subst q2
      obtain ⟨A, c, e1, e2, e3, e4, e5, e6, e7, _⟩ := hh.bA l _ hl
      have e7 := e7 rfl
      rw [e1] at q1
      cases q1
      have hm : (aa ρ' n).toNat ≤ 1000000000 := by omega
      have hs := HS hm e7
      rw [← hP] at hs
      refine wh (P := P) (g := 47) (yx (aj hf hr hG)) hab (by rw [hP]; exact Tryz.func47) rfl rfl ?_
      refine hs.mono ?_
      rintro e w' ⟨rfl, h1, h2⟩
      have he : aU ρ' (.app 925 (.cons (.eY R n) .nil)) = (bh cG (dT (ae aQ (aH (aU ρ' R) (aa ρ' n).toNat)))).r := by
       show (ρ'.f 925 [aH (aU ρ' R) (aa ρ' n)]).r = _
       rw [hF, Int.toNat_of_nonneg e2]
       rfl
      refine ⟨_, rfl, ls, Ext.refl _, hh.lY hl rfl h1 ?_ ⟨A, c, e1, e2, e3, e4, e5, ?_, fun _ => ?_, fun e => by cases e⟩, trivial⟩
      ·cases hb : Value.ownBlock (.slice A (aa ρ' n).toNat c) with
       | none => exact .inl rfl
       | some b => exact .inr ⟨b, rfl, by rw [e1]; exact wI hb⟩
      ·rw [he]; exact HT e6
      ·rw [he]; exact h2
     ·cases h
    ·cases h
   ·cases h
  ·cases h
 ·cases h
end
theorem Ny : fp Tryz.prog wD := Ez rfl
end Vc
end Go.Proofs.YtpmfkelglmgddaaGreatDoor
namespace Go.Proofs.YtpmfkelglmgddaaGreatDoor
namespace Vc
open Go Go.RowKit
set_option linter.unusedVariables false
set_option linter.unusedSimpArgs false
def Jo : SH := [⟨false, 0, .cells [.int .i64 (.var 0) 0 3071]⟩, ⟨false, 0, .cells [.ow 2]⟩, ⟨true, 3, .row kQ (.var 1) (.var 1) 3072⟩, ⟨false, 0, .cells [.ow 4, .ow 5]⟩, ⟨false, 0, .row iO (.var 2) (.var 2) 3072⟩,
 ⟨false, 0, .row su (.var 3) (.var 3) 12288⟩, ⟨false, 0, .cells [.ow 7]⟩, ⟨false, 0, .row Ko (.var 4) (.var 4) 3072⟩, ⟨false, 0, .cells [.fn 26 [] [(0, 0), (1, 0), (3, 0), (6, 0), (8, 0)]]⟩, ⟨false, 0, .abs 4 [] .nil⟩, ⟨false, 0, .abs 5 [2] .nil⟩]
def Jp : List SV := [.c (.int .i64 (.var 5) 0 3071), .c (.ptr 0 0), .c (.ptr 1 0), .c (.ptr 3 0), .c (.ptr 6 0), .c (.ptr 8 0)]
def Re (v : SV) (hp : SH) : Bool := match v, (hp[2]? : Option HE), (hp[9]? : Option HE), (hp[10]? : Option HE) with
 | .eJ [], some ⟨true, ty, .row sh _ _ _⟩, some ⟨false, _, .abs 4 [] .nil⟩, some ⟨false, _, .abs 5 [2] .nil⟩ => Nat.beq ty 3 && decide (sh = kQ)
 | _, _, _, _ => false
def sx : Fm → Fm
 | .leaf v hp => if Re v hp then .leaf (.c (.ow 2)) hp else .c9
 | .and a b => .and (sx a) (sx b)
 | .imp g a => .imp g (sx a)
 | .all m a => .all m (sx a)
 | .oI k A a => .oI k A (sx a)
 | .oJ sh R n hi a => .oJ sh R n hi (sx a)
 | f => f
def DG : BX := .one (.row 3 kQ 3072)
def QA (o : Gh) (B : Nat) (w0 : World) (x : X) (e : Ending) (w' : World) : Prop :=
 e = .returned (.tuple #[]) ∧ Below B w0 w' ∧ (∀ k : Nat, k < o.2.size → some k ≠ o.1.ownBlock → w'.heap[k]? = o.2[k]?) ∧ w'.heap.size ≥ 0 ∧
  ∃ A c, o.1 = .slice A x.i.toNat c ∧ au kQ x.r x.i.toNat ∧ w'.ownsRow B 3 1 o.1 x.i.toNat (aO kQ x.r x.i.toNat)
theorem dA {f : Nat → X} {j : Nat} {B : Nat} {w0 : World} {o : Gh} : ∀ {F : Fm} {ρ : Env}, ρ.o = o → bS f j DG ρ (sx F) → F.holds (fun ρ => bk ρ B w0 (QA o B w0 (f j))) ρ
 | .Dd, _, _, _ => trivial
 | .c9, _, _, h => h
 | .and _ _, _, ho, h => ⟨dA ho h.1, dA ho h.2⟩
 | .imp g a, _, ho, h => fun hg => dA (F := a) ho (h hg)
 | .yJ _, _, _, h => h
 | .pre _ _, _, _, h => h
 | .leaf v hp, ρ, ho, h => fun k ls w' val hh hr => by
  unfold sx at h
  split at h
  ·rename_i hc
   have hrow : wJ ρ hp (f j) (.row 3 kQ 3072) (.ow 2) := h
   unfold Re at hc
   split at hc
   ·rename_i ty sh R n hi ty1 ty2 h2 h9 h10
    simp only [Bool.and_eq_true, decide_eq_true_eq] at hc
    obtain ⟨ht, rfl⟩ := hc
    have ht := Nat.eq_of_beq_eq_true ht
    subst ht
    obtain ⟨vs, e1, e2⟩ := hr
    have e3 : vs = [] := by cases vs with | nil => rfl | cons _ _ => exact e2.elim
    subst e3
    obtain ⟨v9, vs9, _, q1, q2⟩ := hh.bA 9 _ h9
    obtain ⟨v10, vs10, _, q3, q4⟩ := hh.bA 10 _ h10
    match vs10, q3, q4, vs9, q1, q2 with
    | [u], q3, q4, [], _, q2 =>
    obtain ⟨_, arr, _, _, q2⟩ := q2
    obtain ⟨_, _, q4⟩ := q4
    have q5 : ls[2]? = some u := q3.1
    have ho' : (ρ.wk k).o = o := ho
    rw [ho'] at q4 q2
    subst q4
    obtain ⟨A, c, r1, r2, r3, r4, r5, r6, r7, _⟩ := hh.bA 2 _ h2
    have r7 := r7 rfl
    rw [q5] at r1
    have r1 := Option.some.inj r1
    unfold wJ at hrow
    simp only [h2] at hrow
    rw [if_pos (show (Nat.beq 3 3 && iw kQ kQ) = true by decide)] at hrow
    obtain ⟨g1, g2, g3⟩ := hrow
    rw [gn] at r1 r2 r6 r7
    rw [kX] at r6 r7
    have r6 : au kQ (aU ρ R) (aa ρ n).toNat := r6
    have r7 : w'.ownsRow B 3 1 (.slice A (aa ρ n).toNat c) (aa ρ n).toNat (aO kQ (aU ρ R) (aa ρ n).toNat) := r7
    have r1 : o.1 = .slice A (aa ρ n).toNat c := r1
    have hel : aO kQ (f j).r (aa ρ n).toNat = aO kQ (aU ρ R) (aa ρ n).toNat := bQ fun i hi => (dz (g3 i (by omega))).1
    refine ⟨by rw [e1], hh.below, fun k hk hb => (q2 k hk hb).1, Nat.zero_le _, A, c, by rw [g1, r1], fun i hi => (dz (g3 i (by rw [g1] at hi; omega))).2 (r6 i (by rw [g1] at hi; exact hi)), ?_⟩
    rw [g1, hel, r1]
    exact r7
   ·cases hc
  ·exact h.elim
 | .all m a, _, ho, h => fun y => dA (F := a) ho (h y)
 | .oI _ _ a, _, ho, h => fun hp => dA (F := a) ho (h hp)
 | .oJ _ _ _ _ a, _, ho, h => fun hp => dA (F := a) ho (h hp)
end Vc
end Go.Proofs.YtpmfkelglmgddaaGreatDoor
namespace Go.Proofs.YtpmfkelglmgddaaGreatDoor
namespace Vc
open Go Go.RowKit
set_option linter.unusedVariables false
set_option linter.unusedSimpArgs false
def AI (hp : SH) (r q h fi : Nat) (en e lev : E) : Option (SV × SH × Ow) := match hp[r]?, hp[q]?, hp[h]?, hp[fi]? with
 | some ⟨true, ty, .row sh R n hi⟩, some ⟨_, _, .row shq Q nq hq⟩, some ⟨_, _, .row shh H nh hh⟩, some ⟨_, _, .row shf F nf hf⟩ =>
  if (ty = 3 ∧ sh = kQ) ∧ (shq = iO ∧ hq ≤ 3072) ∧ (shh = su ∧ hh ≤ 12288) ∧ shf = Ko ∧ hf ≤ 3072 then
   some (.c .kW, hp.set r ⟨true, ty, .row sh (.app 995 (aL [gq Q nq, gq H nh, gq F nf, gq R n, en, e, lev])) n hi⟩, ⟨[], some (958, aL [gq Q nq, gq H nh, gq F nf, gq R n, en, e, lev])⟩)
  else none
 | _, _, _, _ => none
def uC (hp : SH) (ln lo lm lf lz : Nat) : Option (E × Nat × Nat × Nat × Nat) := match hp[ln]?, hp[lo]?, hp[lm]?, hp[lf]?, hp[lz]? with
 | some ⟨_, _, .cells [.int .i64 en _ _]⟩, some ⟨_, _, .cells [.ow r]⟩, some ⟨_, _, .cells [.ow q, .ow h]⟩, some ⟨_, _, .cells [.ow fi]⟩, some ⟨_, _, .cells [.fn 26 [] cap]⟩ =>
  if cap = [(ln, 0), (lo, 0), (lm, 0), (lf, 0), (lz, 0)] then some (en, r, q, h, fi) else none
 | _, _, _, _, _ => none
def hZ (lev : E) : ku := fun P tm hp G o => match o.op with
 | .call { callee := .value f, args, .. } => (match cA tm G f with
  | some (.c (.fn 26 [] [(ln, 0), (lo, 0), (lm, 0), (lf, 0), (lz, 0)])) => (match kS tm G args.toList with
   | some [.c (.int .i64 e _ _)] => (match uC hp ln lo lm lf lz with
    | some (en, r, q, h, fi) => AI hp r q h fi en e lev
    | none => none)
   | _ => none)
  | _ => none)
 | _ => none
section
variable {ρ : Env} {B : Nat} {w0 w : World} {ls : Ls} {hp : SH}
theorem je (a : Addr) : a.add 0 = a := by unfold Addr.add; rfl
theorem jt (hh : aB ρ B w0 ls hp w) {l : Nat} {wr : Bool} {ty : TypeId} {cs : List SC} (hl : hp[l]? = some ⟨wr, ty, .cells cs⟩) :
 ∃ a vs, ls[l]? = some (.pointer (some a)) ∧ ai (RS ρ ls) cs vs ∧ (∀ (j : Nat) v, vs[j]? = some v → w.cell? (a.add j) = some v) ∧
  ∀ (r : Nat) (x : HE) (b : Nat), hp[r]? = some x → x.live = true → r ≠ l → eK ls[r]? b → a.block ≠ b := by
 obtain ⟨a, vs, h1, h2, h3, _⟩ := hh.bA l _ hl
 refine ⟨a, vs, h1, h2, h3, fun r x b hr hx hne hb e => hne (hh.inj r l x _ b hr hl hx hb ⟨?_, rfl, fun _ => trivial⟩)⟩
 rw [h1, ← e]
 exact .inl rfl
theorem uD (hh : aB ρ B w0 ls hp w) {l : Nat} {wr : Bool} {ty : TypeId} {sh : List Sk} {R n : E} {hi hj : Int} (hl : hp[l]? = some ⟨wr, ty, .row sh R n hi⟩) (hle : hi ≤ hj) {v : Value} (hv : ls[l]? = some v) :
 gB w sh hj (ev ρ (gq R n)).x v ∧ ∀ (r : Nat) (x : HE) (b : Nat), hp[r]? = some x → x.live = true → r ≠ l → eK ls[r]? b → 0 < (ev ρ (gq R n)).x.i.toNat → bU (some v) ≠ some b := by
 obtain ⟨A, c, h1, h2, h3, h4, h5, h6, h7, h8⟩ := hh.bA l _ hl
 rw [h1] at hv
 cases hv
 have e1 : (ev ρ (gq R n)).x.i = aa ρ n := gr.1
 have e2 : (ev ρ (gq R n)).x.r = aU ρ R := gr.2
 refine ⟨⟨A, c, by rw [e1], by rw [e1]; exact h2, by rw [e1]; omega, by rw [e1]; exact h4, h5, by rw [e1, e2]; exact h6, fun hn => ?_⟩, fun r x b hr hx hne hb hn hb' => hne (hh.inj r l x _ b hr hl hx hb ⟨by rw [h1]; exact .inl hb', rfl, fun _ => by rw [e1] at hn; exact hn⟩)⟩
 rw [e1] at hn
 rw [e1, e2]
 cases wr with
 | false => exact h8 rfl hn
 | true =>
  have h7 := h7 rfl
  cases A with
  | none =>
   rcases h7 with ⟨_, ⟨_, h0⟩ | ⟨g, cap, cur, e, _⟩⟩
   ·omega
   ·cases e
  | some a =>
   have h7' := h7
   rcases h7' with ⟨_, ⟨e, _⟩ | ⟨g, cap, cur, e, _⟩⟩
   ·cases e
   ·cases e
    exact ⟨_, rfl, h7.cells rfl⟩
end
theorem yK {hp : SH} {ln lo lm lf lz : Nat} {en : E} {r q h fi : Nat} (hc : uC hp ln lo lm lf lz = some (en, r, q, h, fi)) :
 (∃ a b c d, hp[ln]? = some ⟨a, b, .cells [.int .i64 en c d]⟩) ∧ (∃ a b, hp[lo]? = some ⟨a, b, .cells [.ow r]⟩) ∧ (∃ a b, hp[lm]? = some ⟨a, b, .cells [.ow q, .ow h]⟩) ∧ (∃ a b, hp[lf]? = some ⟨a, b, .cells [.ow fi]⟩) ∧
 ∃ a b, hp[lz]? = some ⟨a, b, .cells [.fn 26 [] [(ln, 0), (lo, 0), (lm, 0), (lf, 0), (lz, 0)]]⟩ := by
 unfold uC at hc
 split at hc
 ·rename_i h1 h2 h3 h4 h5
  split at hc
  ·rename_i hcap
   cases hc
   subst hcap
   exact ⟨⟨_, _, _, _, h1⟩, ⟨_, _, h2⟩, ⟨_, _, h3⟩, ⟨_, _, h4⟩, _, _, h5⟩
  ·cases hc
 ·cases hc
theorem pg {ρ : Env} {ls : Ls} {s : SC} {vs : List Value} (h : ai (RS ρ ls) [s] vs) : ∃ v, vs = [v] ∧ RS ρ ls s v := by
 match vs, h with
 | [v], h => exact ⟨v, rfl, h.1⟩
theorem Lv {ρ : Env} {ls : Ls} {s : SV} {vs : List Value} (h : ai (RV ρ ls) [s] vs) : ∃ v, vs = [v] ∧ RV ρ ls s v := by
 match vs, h with
 | [v], h => exact ⟨v, rfl, h.1⟩
theorem AJ {ls : Ls} {l0 l1 l2 l3 l4 : Nat} {cs : List Value} {a0 a1 a2 a3 a4 : Addr} (h : ai (RP ls) [(l0, 0), (l1, 0), (l2, 0), (l3, 0), (l4, 0)] cs) (e0 : ls[l0]? = some (.pointer (some a0))) (e1 : ls[l1]? = some (.pointer (some a1))) (e2 : ls[l2]? = some (.pointer (some a2))) (e3 : ls[l3]? = some (.pointer (some a3))) (e4 : ls[l4]? = some (.pointer (some a4))) :
 cs = [.pointer (some a0), .pointer (some a1), .pointer (some a2), .pointer (some a3), .pointer (some a4)] := by
 match cs, h with
 | [v0, v1, v2, v3, v4], h =>
  obtain ⟨⟨b0, q0, rfl⟩, ⟨b1, q1, rfl⟩, ⟨b2, q2, rfl⟩, ⟨b3, q3, rfl⟩, ⟨b4, q4, rfl⟩, _⟩ := h
  rw [e0] at q0; cases q0
  rw [e1] at q1; cases q1
  rw [e2] at q2; cases q2
  rw [e3] at q3; cases q3
  rw [e4] at q4; cases q4
  simp only [je]
theorem B9 {P : Program} {K : Value → World → Prop} {dst : Option Tmp} {ty : TypeId} {pos : String} {after : Array Edge} {guard : Option (Nat × Bool)} {f : Operand} {args : Array Operand} {at_ : Array TypeId} {a : Act} {w : World} {g : FuncId} {fn : Func} {vs cs : List Value}
 (hf : a.eval f = .func (.func g) #[] cs.toArray) (hv : args.toList.map a.eval = vs) (h1 : P.funcs[g]? = some fn) (h2 : fn.body.isSome = true) (h3 : (fn.name == "runtime.NumGoroutine") = false)
 (h : Calls P g (vs ++ cs).toArray w fun e w' => ∃ v, e = .returned v ∧ K v w') : gy P K ((execOp a.eval ⟨dst, .call { callee := .value f, args, argTypes := at_ }, ty, pos, after, guard⟩).run P w) := by
 have e : args.map a.eval = vs.toArray := by rw [← Array.toList_map] at hv; rw [← hv]
 have hrun : (execOp a.eval ⟨dst, .call { callee := .value f, args, argTypes := at_ }, ty, pos, after, guard⟩).run P w = .ok (.enter g (vs ++ cs).toArray) w := by
  simp only [execOp, resolve, hf, Deferred.ofValue, Sem.run_bind, Sem.run_pure, Result.andThen_ok, invoke, e]
  simp [bd h1 h2 h3]
 rw [hrun]
 exact h
theorem Lw {ls : Ls} {ρ : Env} {e : E} {lo hi : Int} {v : Value} (h : RS ρ ls (.int .i64 e lo hi) v) : v = .int .i64 (aa ρ e) := h.1
section
variable {P : Program} (hP : P = Tryz.prog)
include hP
theorem yL (lev : E) : fp P (hZ lev) := fun x k ob tm hp G o s hp' ow h B w0 w ls a hw hr hG hh => by
 obtain ⟨ρ', hρ⟩ : ∃ ρ', ρ' = ρ0.sw x k ob := ⟨_, rfl⟩
 have hF : ρ'.f = Ff := by rw [hρ]; rfl
 have hp0 : ρ'.p = Px := by rw [hρ]; rfl
 have hgl : cE bL B w := by have := hh.cS; exact this
 rw [← hρ] at hw hr hG hh ⊢
 obtain ⟨dst, op, ty, pos, after, guard⟩ := o
 unfold hZ at h
 simp only at h
 split at h
 ·rename_i f args at_
  split at h
  ·rename_i ln lo lm lf lz hf
   split at h
   ·rename_i e elo ehi hvs
    split at h
    ·rename_i en r q h' fi hcl
     obtain ⟨⟨_, _, _, _, t1⟩, ⟨_, _, t2⟩, ⟨_, _, t3⟩, ⟨_, _, t4⟩, _, _, t5⟩ := yK hcl
     unfold AI at h
     split at h
     ·rename_i ty0 sh R n hi _ _ shq Q nq hq _ _ shh H nh hhi _ _ shf F nf hf' u1 u2 u3 u4
      split at h
      ·rename_i hc
       obtain ⟨⟨rfl, rfl⟩, ⟨rfl, hq⟩, ⟨rfl, hhh⟩, rfl, hff⟩ := hc
       cases h
       have nrq : r ≠ q := fun e => by rw [e, u2] at u1; cases u1
       have nrh : r ≠ h' := fun e => by rw [e, u3] at u1; cases u1
       have nrf : r ≠ fi := fun e => by rw [e, u4] at u1; cases u1
       have nl : ∀ {l : Nat} {wr : Bool} {ty : TypeId} {cs : List SC}, hp[l]? = some ⟨wr, ty, .cells cs⟩ → r ≠ l := fun hl e => by rw [e, hl] at u1; cases u1
       obtain ⟨an, v1, c1, c2, c3, c4⟩ := jt hh t1
       obtain ⟨ao, v2, d1, d2, d3, d4⟩ := jt hh t2
       obtain ⟨am, v3, m1, m2, m3, m4⟩ := jt hh t3
       obtain ⟨af, v4, f1, f2, f3, f4⟩ := jt hh t4
       obtain ⟨az, v5, z1, z2, z3, z4⟩ := jt hh t5
       obtain ⟨y1, i1, C2⟩ := pg c2
       obtain ⟨y2, i2, D2⟩ := pg d2
       obtain ⟨y4, i4, F2⟩ := pg f2
       obtain ⟨y5, i5, Z2⟩ := pg z2
       obtain ⟨vQ, vH, i3, M2, M3⟩ : ∃ vQ vH, v3 = [vQ, vH] ∧ RS ρ' ls (.ow q) vQ ∧ RS ρ' ls (.ow h') vH := by
        match v3, m2 with
        | [u, v], m2 => exact ⟨u, v, rfl, m2.1, m2.2.1⟩
       subst i1 i2 i3 i4 i5
       obtain ⟨fs, cs, i6, g1, g2⟩ := Z2
       subst i6
       have g1' : fs = [] := by cases fs with | nil => rfl | cons _ _ => exact g1.elim
       subst g1'
       have g3 := AJ g2 c1 d1 m1 f1 z1
       subst g3
       have C2 := Lw C2
       subst C2
       obtain ⟨rq1, rq2⟩ := uD hh u2 hq M2.1
       obtain ⟨rh1, rh2⟩ := uD hh u3 hhh M3.1
       obtain ⟨rf1, rf2⟩ := uD hh u4 hff F2.1
       obtain ⟨A, c, o1, o2, o3, o4, o5, o6, o7, _⟩ := hh.bA r _ u1
       have o7 := o7 rfl
       obtain ⟨D2, _⟩ := D2
       rw [o1] at D2
       have D2 := Option.some.inj D2
       subst D2
       have hb : ∀ b, Value.ownBlock (.slice A (aa ρ' n).toNat c) = some b → eK ls[r]? b := fun b hb => by rw [o1]; exact wI hb
       have hpre : Px 958 [(ev ρ' (gq Q nq)).x, (ev ρ' (gq H nh)).x, (ev ρ' (gq F nf)).x, (ev ρ' (gq R n)).x, (ev ρ' en).x, (ev ρ' e).x, (ev ρ' lev).x] := by rw [← hp0]; exact hw.2
       obtain ⟨hC, hA⟩ := hpre
       have eR1 : (ev ρ' (gq R n)).x.i = aa ρ' n := gr.1
       have eR2 : (ev ρ' (gq R n)).x.r = aU ρ' R := gr.2
       have eQ : aa ρ' n = (ev ρ' (gq Q nq)).x.i := by rw [← eR1]; exact hC.2.2.1
       have hX : aH (aU ρ' R) (ev ρ' (gq Q nq)).x.i = aH (ev ρ' (gq R n)).x.r (ev ρ' (gq R n)).x.i := by rw [eR1, eR2, eQ]
       have hK : (((ev ρ' lev).x.i.toNat : Nat) : Int) = (ev ρ' lev).x.i := Int.toNat_of_nonneg hC.2.2.2.2.2.2.1
       obtain ⟨va, ia, Va⟩ := Lv (b8 hr hG hvs)
       have Va : va = .int .i64 (aa ρ' e) := Va.1
       subst Va
       obtain ⟨fs, cs, jf, g1, g2⟩ := aj hf hr hG
       have g1' : fs = [] := by cases fs with | nil => rfl | cons _ _ => exact g1.elim
       subst g1'
       have g3 := AJ g2 c1 d1 m1 f1 z1
       subst g3
       rw [eQ] at o1 o4 o6 o7 hb
       have hin : DF w B an ao am af az vQ vH y4 A c (ev ρ' (gq Q nq)).x (ev ρ' (gq H nh)).x (ev ρ' (gq F nf)).x (aU ρ' R) (aa ρ' en) := {
        cn := by have := c3 0 _ rfl; rwa [je] at this
        co := by have := d3 0 _ rfl; rwa [je, eQ] at this
        cm := by have := m3 0 _ rfl; rwa [je] at this
        Q2 := m3 1 _ rfl
        cf := by have := f3 0 _ rfl; rwa [je] at this
        cz := by have := z3 0 _ rfl; rwa [je] at this
        rQ := rq1
        rH := rh1
        rF := rf1
        own := o7
        ok := o6
        cap := o4
        sep := fun b hb' => ⟨c4 r _ b u1 rfl (nl t1) (hb b hb'), d4 r _ b u1 rfl (nl t2) (hb b hb'), m4 r _ b u1 rfl (nl t3) (hb b hb'), f4 r _ b u1 rfl (nl t4) (hb b hb'), z4 r _ b u1 rfl (nl t5) (hb b hb'), rq2 r _ b u1 rfl nrq (hb b hb'), rh2 r _ b u1 rfl nrh (hb b hb'), rf2 r _ b u1 rfl nrf (hb b hb')⟩ }
       have hcall := hA B w0 w an ao am af az vQ vH y4 A c _ _ _ (aU ρ' R) (aa ρ' en) (aa ρ' e) hh.below hh.base hgl hin (by rw [hX, hK]; exact hC)
       rw [← hP] at hcall
       refine B9 (P := P) (g := 26) jf ia (by rw [hP]; exact Tryz.func26) rfl rfl ?_
       refine hcall.mono ?_
       rintro e' w' ⟨rfl, q1, q2, q3⟩
       have he : aU ρ' (.app 995 (aL [gq Q nq, gq H nh, gq F nf, gq R n, en, e, lev])) = (oB (ev ρ' (gq Q nq)).x (aU ρ' R) (aa ρ' en) (aa ρ' e) (ev ρ' lev).x.i.toNat).r := by
        rw [← eR2]
        show (ρ'.f 995 _).r = _
        rw [hF]
        rfl
       refine ⟨_, rfl, ls, Ext.refl _, hh.lY u1 rfl q1 ?_ ⟨A, c, by rw [eQ]; exact o1, o2, o3, by rw [eQ]; exact o4, o5, ?_, fun _ => ?_, fun e => by cases e⟩, trivial⟩
       ·cases hb' : Value.ownBlock (.slice A (ev ρ' (gq Q nq)).x.i.toNat c) with
        | none => exact .inl rfl
        | some b => exact .inr ⟨b, rfl, hb b hb'⟩
       ·rw [he, eQ]; exact q2
       ·rw [he, eQ]; exact q3
      ·cases h
     ·cases h
    ·cases h
   ·cases h
  ·cases h
 ·cases h
end
end Vc
end Go.Proofs.YtpmfkelglmgddaaGreatDoor
namespace Go.Proofs.YtpmfkelglmgddaaGreatDoor
namespace Vc
open Go Go.RowKit
set_option linter.unusedVariables false
set_option linter.unusedSimpArgs false
theorem z6 (lev : E) : fp Tryz.prog (hZ lev) := yL rfl lev
def Mx (w : World) (ob : Option Nat) : Array Value := ((List.range w.heap.size).map fun k => if some k = ob then Value.bool true else .slice (some ⟨k, 0, none⟩) 0 0).toArray
theorem AK {w : World} {ob : Option Nat} {j : Nat} {a : Addr} {n c : Nat} (h : (Mx w ob)[j]? = some (.slice (some a) n c)) : a.block < w.heap.size ∧ some a.block ≠ ob := by
 unfold Mx at h
 simp only [List.getElem?_toArray, List.getElem?_map] at h
 by_cases hj : j < w.heap.size
 ·rw [List.getElem?_range hj] at h
  simp only [Option.map_some, Option.some.injEq] at h
  split at h
  ·cases h
  ·rename_i hne
   cases h
   exact ⟨hj, hne⟩
 ·rw [List.getElem?_eq_none (by simpa using hj)] at h
  cases h
theorem HU {w : World} {ob : Option Nat} {k : Nat} (hk : k < w.heap.size) (hne : some k ≠ ob) : (Mx w ob)[k]? = some (.slice (some ⟨k, 0, none⟩) 0 0) := by
 unfold Mx
 simp only [List.getElem?_toArray, List.getElem?_map]
 rw [List.getElem?_range hk]
 simp [hne]
def Jq (w : World) (an ao am af az : Addr) (vQ vH vF : Value) (A : Option Addr) (N c : Nat) : Ls :=
 [.pointer (some an), .pointer (some ao), .slice A N c, .pointer (some am), vQ, vH, .pointer (some af), vF, .pointer (some az), .agg (Mx w (Value.ownBlock (.slice A N c))), .bool true]
def EA (n : Int) (R Q H F : X) (f : Int) (k : Nat) : Nat → X := fun j => [xI n, R, Q, H, F, xI f, xI k].getD j (xI 0)
theorem gI {ρ : Env} {B : Nat} {w : World} {ls : Ls} {l : Nat} {a : Addr} {cs : List SC} {vs : List Value} (h1 : ls[l]? = some (.pointer (some a))) (h2 : ai (RS ρ ls) cs vs) (h3 : ∀ (j : Nat) v, vs[j]? = some v → w.cell? (a.add j) = some v) (h4 : w.cell? a ≠ none) : aT ρ B w ls l ⟨false, 0, .cells cs⟩ :=
 ⟨a, vs, h1, h2, h3, (fun e => by cases e), fun _ => by
   cases h : w.cell? a with
   | none => exact absurd h h4
   | some u => exact qp h⟩
theorem uE {ρ : Env} {B : Nat} {w : World} {ls : Ls} {l v : Nat} {sh : List Sk} {hi : Int} {x : X} {u : Value} (h1 : ls[l]? = some u) (hx : ρ.x v = x) (h : gB w sh hi x u) : aT ρ B w ls l ⟨false, 0, .row sh (.var v) (.var v) hi⟩ := by
 obtain ⟨A, c, rfl, h2, h3, h4, h5, h6, h7⟩ := h
 have e1 : aa ρ (.var v) = x.i := by show (ρ.x v).i = _; rw [hx]
 have e2 : aU ρ (.var v) = x.r := by show (ρ.x v).r = _; rw [hx]
 exact ⟨A, c, by rw [e1]; exact h1, by rw [e1]; exact h2, by rw [e1]; exact h3, by rw [e1]; exact h4, h5, by rw [e1, e2]; exact h6, (fun e => by cases e), fun _ hn => by rw [e1] at hn; rw [e1, e2]; exact h7 hn⟩
theorem one_cell {w : World} {a : Addr} {u : Value} (h : w.cell? a = some u) : ∀ (j : Nat) v, [u][j]? = some v → w.cell? (a.add j) = some v := fun j v hj => by
 match j, hj with
 | 0, hj => cases hj; rw [je]; exact h
theorem HV {ρ : Env} {B : Nat} {w0 w : World} {an ao am af az : Addr} {vQ vH vF : Value} {A : Option Addr} {c : Nat} {Q H F : X} {R : Int → Int → Y} {n f : Int} {k : Nat} (hb : Below B w0 w) (hB : B = w0.heap.size) (hg : cE ρ.g B w)
 (hin : DF w B an ao am af az vQ vH vF A c Q H F R n) (hn : 0 ≤ n ∧ n ≤ 3071) (hx : ρ.x = EA n (aH R Q.i) Q H F f k) (ho : ρ.o = (.slice A Q.i.toNat c, w.heap)) : aB ρ B w0 (Jq w an ao am af az vQ vH vF A Q.i.toNat c) Jo w := by
 have hQ := hin.rQ
 obtain ⟨AQ, cQ, eQ, q0, q1, q2, _⟩ := hQ
 have x0 : aa ρ (.var 0) = n := by show (ρ.x 0).i = _; rw [hx]; rfl
 have x1 : aa ρ (.var 1) = Q.i := by show (ρ.x 1).i = _; rw [hx]; rfl
 have x1r : aU ρ (.var 1) = R := by show (ρ.x 1).r = _; rw [hx]; rfl
 refine ⟨hb, hB, rfl, hg, fun i h hi => ?_, fun i j x y b hxi hyj lx hbi hrd => ?_⟩
 ·match i, hi with
  | 0, hi => cases hi; exact gI (vs := [_]) rfl ⟨⟨by rw [x0], by rw [x0]; exact hn.1, by rw [x0]; exact hn.2⟩, trivial⟩ (one_cell hin.cn) (by rw [hin.cn]; exact fun e => by cases e)
  | 1, hi => cases hi; exact gI (vs := [_]) rfl ⟨⟨rfl, _, _, _, rfl⟩, trivial⟩ (one_cell hin.co) (by rw [hin.co]; exact fun e => by cases e)
  | 2, hi =>
   cases hi
   refine ⟨A, c, by rw [x1]; rfl, by rw [x1]; exact q0, by rw [x1]; exact q1, by rw [x1]; exact hin.cap, by decide, by rw [x1, x1r]; exact hin.ok, fun _ => by rw [x1, x1r]; exact hin.own, fun e => by cases e⟩
  | 3, hi =>
   cases hi
   refine gI (vs := [vQ, vH]) rfl ⟨⟨rfl, ?_⟩, ⟨rfl, ?_⟩, trivial⟩ (fun j v hj => ?_) (by rw [hin.cm]; exact fun e => by cases e)
   ·exact ⟨AQ, _, cQ, eQ⟩
   ·obtain ⟨AH, cH, eH, _⟩ := hin.rH; exact ⟨AH, _, cH, eH⟩
   ·match j, hj with
    | 0, hj => cases hj; rw [je]; exact hin.cm
    | 1, hj => cases hj; exact hin.Q2
  | 4, hi => cases hi; exact uE (x := Q) rfl (by rw [hx]; rfl) hin.rQ
  | 5, hi => cases hi; exact uE (x := H) rfl (by rw [hx]; rfl) hin.rH
  | 6, hi =>
   cases hi
   obtain ⟨AF, cF, eF, _⟩ := hin.rF
   exact gI (vs := [vF]) rfl ⟨⟨rfl, AF, _, cF, eF⟩, trivial⟩ (one_cell hin.cf) (by rw [hin.cf]; exact fun e => by cases e)
  | 7, hi => cases hi; exact uE (x := F) rfl (by rw [hx]; rfl) hin.rF
  | 8, hi =>
   cases hi
   refine gI (vs := [_]) rfl ⟨⟨[], [.pointer (some an), .pointer (some ao), .pointer (some am), .pointer (some af), .pointer (some az)], rfl, trivial, ⟨an, rfl, by rw [je]⟩, ⟨ao, rfl, by rw [je]⟩, ⟨am, rfl, by rw [je]⟩, ⟨af, rfl, by rw [je]⟩, ⟨az, rfl, by rw [je]⟩, trivial⟩, trivial⟩ (one_cell hin.cz) (by rw [hin.cz]; exact fun e => by cases e)
  | 9, hi =>
   cases hi
   refine ⟨_, [], rfl, trivial, rfl, Mx w (Value.ownBlock (.slice A Q.i.toNat c)), rfl, fun j a n c h => (AK h).1, fun k hk hne => ?_⟩
   rw [ho] at hk hne ⊢
   exact ⟨rfl, k, 0, 0, HU hk hne⟩
  | 10, hi =>
   cases hi
   exact ⟨.bool true, [.slice A Q.i.toNat c], rfl, ⟨rfl, trivial⟩, rfl, rfl, by rw [ho]⟩
 ·have hi2 : i = 2 := by
   match i, hxi with
   | 0, h => cases h; cases lx
   | 1, h => cases h; cases lx
   | 2, h => rfl
   | 3, h => cases h; cases lx
   | 4, h => cases h; cases lx
   | 5, h => cases h; cases lx
   | 6, h => cases h; cases lx
   | 7, h => cases h; cases lx
   | 8, h => cases h; cases lx
   | 9, h => cases h; cases lx
   | 10, h => cases h; cases lx
  subst hi2
  have hb' : Value.ownBlock (.slice A Q.i.toNat c) = some b := by
   have : bU (some (.slice A Q.i.toNat c)) = some b := eK.sl hbi
   cases A with
   | none => cases this
   | some a => exact this
  obtain ⟨s0, s1, s2, s3, s4, s5, s6, s7⟩ := hin.sep b hb'
  obtain ⟨r1, _, r3⟩ := hrd
  have pt : ∀ {a : Addr}, eK (some (.pointer (some a))) b → a.block = b := fun h => by
   rcases h with h | ⟨_, _, _, _, _, e, _⟩
   ·exact Option.some.inj h
   ·cases e
  match j, hyj with
  | 0, h => exact absurd (pt r1) s0
  | 1, h => exact absurd (pt r1) s1
  | 2, h => rfl
  | 3, h => exact absurd (pt r1) s2
  | 4, h =>
   cases h
   have r3 : 0 < (aa ρ (.var 2)).toNat := by have := r3 rfl; simp only at this; omega
   rw [show aa ρ (.var 2) = Q.i by show (ρ.x 2).i = _; rw [hx]; rfl] at r3
   have r1 : eK (some vQ) b := r1
   rw [eQ] at r1 s5
   exact absurd (eK.sl r1) (s5 r3)
  | 5, h =>
   cases h
   have r3 : 0 < (aa ρ (.var 3)).toNat := by have := r3 rfl; simp only at this; omega
   rw [show aa ρ (.var 3) = H.i by show (ρ.x 3).i = _; rw [hx]; rfl] at r3
   have r1 : eK (some vH) b := r1
   obtain ⟨AH, cH, eH, _⟩ := hin.rH
   rw [eH] at r1 s6
   exact absurd (eK.sl r1) (s6 r3)
  | 6, h => exact absurd (pt r1) s3
  | 7, h =>
   cases h
   have r3 : 0 < (aa ρ (.var 4)).toNat := by have := r3 rfl; simp only at this; omega
   rw [show aa ρ (.var 4) = F.i by show (ρ.x 4).i = _; rw [hx]; rfl] at r3
   have r1 : eK (some vF) b := r1
   obtain ⟨AF, cF, eF, _⟩ := hin.rF
   rw [eF] at r1 s7
   exact absurd (eK.sl r1) (s7 r3)
  | 8, h => exact absurd (pt r1) s4
  | 9, h =>
   obtain ⟨j, a, n, c, g1, g2⟩ := eK.agg r1
   exact absurd hb' (by rw [← g2]; exact fun e => (AK g1).2 e.symm)
  | 10, h =>
   rcases r1 with h | ⟨_, _, _, _, _, e, _⟩
   ·cases h
   ·cases e
def I7 (P : Program) (cf : a8) (fn : Func) (N : Nat) : Fm := go P cf 0 fn N (.code (gb fn)) [] (gj fn Jp Jo) [] none
theorem DI {cf : a8} (hc : aP Tryz.prog ρ0 cf) (N : Nat) {k : Nat}
 (h : ∀ (n : Int) (R Q H F : X) (f : Int) (ob : Gh), (0 ≤ n ∧ n ≤ 3071) → (0 ≤ R.i ∧ R.i ≤ 3072 ∧ au kQ R.r R.i.toNat) → (0 ≤ Q.i ∧ Q.i ≤ 3072 ∧ au iO Q.r Q.i.toNat) → (0 ≤ H.i ∧ H.i ≤ 12288 ∧ au su H.r H.i.toNat) → (0 ≤ F.i ∧ F.i ≤ 3072 ∧ au Ko F.r F.i.toNat) → (0 ≤ f ∧ f ≤ 3071) → GW Q H F R n f k →
   bS (fun j => Ff j [Q, H, F, R, xI n, xI f, xI k]) 995 DG { ρ0 with x := EA n R Q H F f k, o := ob } (sx (I7 Tryz.prog cf Tryz.f26 N))) : zY k := by
 intro B w0 w an ao am af az vQ vH vF A c Q H F R n f hb hB hg hin hC
 obtain ⟨AQ, cQ, eQ, q0, q1, q2, q3, q4, q5⟩ := hin.rQ
 obtain ⟨AH, cH, eH, h0, h1, h2, h3, h4, h5⟩ := hin.rH
 obtain ⟨AF, cF, eF, f0, f1, f2, f3, f4, f5⟩ := hin.rF
 have hn := hC.2.2.2.2.2.1
 have hf := hC.2.2.2.1
 have dZ := HV (ρ := { ρ0 with x := EA n (aH R Q.i) Q H F f k, o := (.slice A Q.i.toNat c, w.heap) }) hb hB hg hin hn rfl rfl
 have hl := h n (aH R Q.i) Q H F f (.slice A Q.i.toNat c, w.heap) hn ⟨q0, q1, hin.ok⟩ ⟨q0, q1, q4⟩ ⟨h0, h1, h4⟩ ⟨f0, f1, f4⟩ (by omega) hC
 have hv : ai (RV { ρ0 with x := EA n (aH R Q.i) Q H F f k, o := (.slice A Q.i.toNat c, w.heap) } (Jq w an ao am af az vQ vH vF A Q.i.toNat c)) Jp [.int .i64 f, .pointer (some an), .pointer (some ao), .pointer (some am), .pointer (some af), .pointer (some az)] :=
  ⟨⟨rfl, show 0 ≤ f by omega, show f ≤ 3071 by omega⟩, ⟨an, rfl, by rw [je]⟩, ⟨ao, rfl, by rw [je]⟩, ⟨am, rfl, by rw [je]⟩, ⟨af, rfl, by rw [je]⟩, ⟨az, rfl, by rw [je]⟩, trivial⟩
 have hcall := EB (f0 := 0) ((hc.nT (EA n (aH R Q.i) Q H F f k)).Nz (.slice A Q.i.toNat c, w.heap)) Tryz.func26 (rfl : Tryz.f26.body = some (gb Tryz.f26)) N dZ hv (dA (o := (.slice A Q.i.toNat c, w.heap)) (B := B) (w0 := w0) rfl hl)
 refine hcall.mono ?_
 rintro e w' ⟨he, hbe, hfr, _, A', c', e1, e2, e3⟩
 have hx : (Ff 995 [Q, H, F, aH R Q.i, xI n, xI f, xI (k : Int)]) = oB Q R n f k := rfl
 rw [hx] at e1 e2 e3
 have e1 : Value.slice A Q.i.toNat c = .slice A' (oB Q R n f k).i.toNat c' := e1
 have e3 : w'.ownsRow B 3 1 (.slice A Q.i.toNat c) (oB Q R n f k).i.toNat (aO kQ (oB Q R n f k).r (oB Q R n f k).i.toNat) := e3
 have e4 : (oB Q R n f k).i.toNat = Q.i.toNat := by injection e1 with _ e _; exact e.symm
 rw [e4] at e2 e3
 have hfr : ∀ k : Nat, k < w.heap.size → some k ≠ Value.ownBlock (.slice A Q.i.toNat c) → w'.heap[k]? = w.heap[k]? := hfr
 refine ⟨he, ⟨by rw [hbe.os, hb.os], by rw [hbe.tape, hb.tape], by rw [hbe.output, hb.output], ?_, hfr⟩, e2, e3⟩
 refine Nat.not_lt.1 fun hlt => ?_
 by_cases hb' : some w'.heap.size = Value.ownBlock (.slice A Q.i.toNat c)
 ·have := (e3.lt _ hb'.symm).2
  omega
 ·have := hfr _ hlt hb'
  rw [Array.getElem?_eq_none (Nat.le_refl _), Array.getElem?_eq_getElem hlt] at this
  cases this
end Vc
end Go.Proofs.YtpmfkelglmgddaaGreatDoor
