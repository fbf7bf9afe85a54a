/- Regions that draw their order, in the calculus: quiet operations and such as make new cells, each evaluated over what it surely comes behind. -/
import Derived.Test.YtelbilnnmmbmdaaDoorVdH
namespace Go.Proofs.YtelbilnnmmbmdaaDoor
namespace Vc
open Go Go.RowKit
set_option linter.unusedVariables false
inductive It where
 | val (t : Tm)
 | new (sl : Option Nat) (ty : TypeId) (cs : List SC)
 | res (c : RCtr) (es : List E)
 | put (i : Nat) (cs : List SC)
 deriving Inhabited
def unkT : Tm := ⟨.bc true, .c .und⟩
def It.tm : It → Tm
 | .val t => t
 | .new _ _ _ => unkT
 | .res _ _ => unkT
 | .put _ _ => unkT
def dstOf (ops : Array Oper) (j : Nat) : Option Tmp := (ops[j]?).bind (·.dst)
theorem dec_w {s : ByteArray} {i : Nat} (h : i < s.size) : i + (Utf8.decode s i).2 ≤ s.size ∧ 1 ≤ (Utf8.decode s i).2 := by
 unfold Utf8.decode
 simp only
 split
 ·exact ⟨by omega, by omega⟩
 ·split
  ·rename_i hc
   simp only [Bool.and_eq_true, decide_eq_true_eq] at hc
   split <;> exact ⟨by simp only; omega, by simp only; omega⟩
  ·split
   ·rename_i hc
    simp only [Bool.and_eq_true, decide_eq_true_eq] at hc
    split <;> exact ⟨by simp only; omega, by simp only; omega⟩
   ·split
    ·rename_i hc
     simp only [Bool.and_eq_true, decide_eq_true_eq] at hc
     split <;> exact ⟨by simp only; omega, by simp only; omega⟩
    ·exact ⟨by simp only; omega, by simp only; omega⟩
theorem dec_r {s : ByteArray} {i : Nat} : (Utf8.decode s i).1 ≤ 1114111 := by
 have hv : ∀ {c : Nat}, Utf8.valid (c : Int) = true → c ≤ 1114111 := fun {c} h => by
  unfold Utf8.valid at h
  simp only [Bool.or_eq_true, Bool.and_eq_true, decide_eq_true_eq] at h
  omega
 unfold Utf8.decode
 simp only
 split
 ·rename_i h; simp only; omega
 ·split
  ·split
   ·simp only
    have := Nat.mod_lt (s.get! (i + 0)).toNat (show 0 < 32 by omega)
    have := Nat.mod_lt (s.get! (i + 1)).toNat (show 0 < 64 by omega)
    omega
   ·exact (by decide : 65533 ≤ 1114111)
  ·split
   ·split
    ·rename_i h
     simp only [Bool.and_eq_true] at h
     exact hv h.2
    ·exact (by decide : 65533 ≤ 1114111)
   ·split
    ·split
     ·rename_i h
      simp only [Bool.and_eq_true] at h
      exact hv h.2
     ·exact (by decide : 65533 ≤ 1114111)
    ·exact (by decide : 65533 ≤ 1114111)
def nextT (a p : E) (hi : Int) : SV := .tup [(false, [.bool (.bc true)]), (false, [.int .i64 p 0 hi]), (false, [.int .i32 (.dcr a p) 0 1114111])]
def nextF : SV := .tup [(false, [.bool (.bc false)])]
section
variable {P : Program} {ρ : Env} {B : Nat} {w0 w : World} {ls : Ls} {hp : SH} {tm : Tms} {a : Act} {G : E} {cf : Cfg}
theorem run_getI {L : Nat} {s : ByteArray} {n : Nat} (hb : w.heap[L]? = some (.stringIter s n)) : (getObj L).run P w = .ok (.stringIter s n) w := by simp [getObj, Sem.run, hb]
theorem run_setI {L : Nat} {s : ByteArray} {n : Nat} (o : Obj) (hb : w.heap[L]? = some (.stringIter s n)) : (setObj L o).run P w = .ok () { w with heap := w.heap.setIfInBounds L o } := by simp [setObj, Sem.run, hb]
theorem objGrown (w : World) (L : Nat) (o : Obj) : w.grownBy { w with heap := w.heap.setIfInBounds L o } (some L) := ⟨rfl, rfl, rfl, by simp, fun k _ hk => Array.getElem?_setIfInBounds_ne (fun (e : L = k) => hk (by rw [e]))⟩
theorem objSame {w : World} {L : Nat} {o : Obj} (h : L < w.heap.size) : ({ w with heap := w.heap.setIfInBounds L o } : World).heap[L]? = some o := by simp [h]
theorem next_ok {l : Nat} {ty ty' : TypeId} {s p : E} {hi : Int} {v : Value} (hl : hp[l]? = some ⟨true, ty, .iter s p hi⟩) (hh : HOk ρ B w0 ls hp w) (hv : RS ρ ls (.ptr l 0) v) :
 (evI ρ p < evI ρ s → ∃ z w', (Instr.next v true ty').run P w = .ok z w' ∧ HOk ρ B w0 ls (hp.set l ⟨true, ty, .iter s (.add p (.dcw s p)) hi⟩) w' ∧ RV ρ ls (nextT s p hi) z) ∧
 (¬ evI ρ p < evI ρ s → ∃ z, (Instr.next v true ty').run P w = .ok z w ∧ RV ρ ls nextF z) := by
 obtain ⟨_, L, str, h1, h2, h3, h4, h5, h6, h7, h8⟩ := hh.ent l _ hl
 obtain ⟨a', ha, rfl⟩ := hv
 rw [h1] at ha
 cases ha
 have e0 : (⟨L, 0, none⟩ : Addr).add 0 = ⟨L, 0, none⟩ := by rw [Addr.add_lit]
 rw [e0]
 constructor
 ·intro hlt
  have hpos : (evI ρ p).toNat < str.size := by omega
  obtain ⟨d1, d2⟩ := dec_w hpos
  have hL : L < w.heap.size := (Array.getElem?_eq_some_iff.1 h3).1
  refine ⟨.tuple #[.bool true, goInt (evI ρ p).toNat, .int .i32 (Utf8.decode str (evI ρ p).toNat).1], { w with heap := w.heap.setIfInBounds L (.stringIter str ((evI ρ p).toNat + (Utf8.decode str (evI ρ p).toNat).2)) }, by simp [Instr.next, run_getI h3, hpos, run_setI _ h3], hh.turn hl rfl (objGrown w L _) (.inr ⟨L, rfl, .inl (by rw [h1]; rfl)⟩) ?_, ?_⟩
  ·have ew : evI ρ (.dcw s p) = ((Utf8.decode str (evI ρ p).toNat).2 : Nat) := by
    show decW (ev ρ s).x.v (evI ρ p) = _
    rw [h4]; rfl
   have ea : evI ρ (.add p (.dcw s p)) = evI ρ p + evI ρ (.dcw s p) := rfl
   refine ⟨rfl, L, str, h1, h2, ?_, h4, h5, by rw [ea, ew]; omega, by rw [ea, ew]; omega, h8⟩
   rw [objSame hL, ea, ew]
   congr 2
   omega
  ·have er : evI ρ (.dcr s p) = ((Utf8.decode str (evI ρ p).toNat).1 : Nat) := by
    show decR (ev ρ s).x.v (evI ρ p) = _
    rw [h4]; rfl
   have := dec_r (s := str) (i := (evI ρ p).toNat)
   refine ⟨[.bool true, goInt (evI ρ p).toNat, .int .i32 (Utf8.decode str (evI ρ p).toNat).1], rfl, rfl, ⟨?_, h6, by omega⟩, ⟨by rw [er], by rw [er]; omega, by rw [er]; omega⟩, trivial⟩
   show Value.int .i64 _ = _
   congr 1
   omega
 ·intro hge
  have hpos : ¬ (evI ρ p).toNat < str.size := by omega
  exact ⟨.tuple #[.bool false], by simp [Instr.next, run_getI h3, hpos], [.bool false], rfl, rfl, trivial⟩
theorem range_ok {t : TypeId} {e : E} {hi : Int} {v : Value} (ht : P.underlying t = some .string) (hh : HOk ρ B w0 ls hp w) (hv : RS ρ ls (.str e hi) v) :
 ∃ z w', (Instr.range t v).run P w = .ok z w' ∧ HOk ρ B w0 (ls ++ [z]) (hp ++ [⟨true, 0, .iter e (.ic 0) hi⟩]) w' ∧ RS ρ (ls ++ [z]) (.ptr hp.length 0) z := by
 obtain ⟨str, rfl, h2, h3, h4⟩ := hv
 refine ⟨.pointer (some ⟨w.heap.size, 0, none⟩), w.alloc (.stringIter str 0), by simp only [Instr.range, Sem.run_bind, run_underlying ht, Result.andThen_ok, Sem.run_pure, run_newObj]; rfl, hh.push (World.grownBy_alloc w _ none) ⟨rfl, w.heap.size, str, by simp, hh.size, heap_alloc_new w _, h2, h3, Int.le_refl _, ?_, h4⟩ (fun b hb => by cases hb.ptr; exact Nat.le_refl _), ⟨⟨w.heap.size, 0, none⟩, by rw [← hh.len]; simp, by rw [Addr.add_lit]; rfl⟩⟩
 show (0 : Int) ≤ _
 omega
theorem findNow_str (s : ByteArray) : ∀ (es : List MapEntry) (i : Nat), (∀ e ∈ es, e.val = .bool true ∧ ∃ t, e.key = .string t) →
 ((es.any fun e => strEq e.key (.string s)) = true → ∃ j, Instr.findNow .string (.string s) es i = some (some (j, .bool true))) ∧ ((es.any fun e => strEq e.key (.string s)) = false → Instr.findNow .string (.string s) es i = some none)
 | [], i, _ => ⟨(fun h => by simp at h), fun _ => rfl⟩
 | e :: r, i, h => by
  obtain ⟨h1, t, h2⟩ := h e List.mem_cons_self
  obtain ⟨i1, i2⟩ := findNow_str s r (i + 1) fun x hx => h x (List.mem_cons_of_mem _ hx)
  have hb : (s == t) = strEq e.key (.string s) := by
   rw [h2]
   show (s == t) = (t.toList == s.toList)
   rw [Bool.eq_iff_iff, MapKept.bytes_beq, beq_iff_eq, ByteArray.toList_eq, ByteArray.toList_eq]
   exact ⟨fun h => by rw [h], fun h => by cases s; cases t; simpa using h.symm⟩
  unfold Instr.findNow
  simp only [List.any_cons]
  rw [← hb, h2]
  simp only [Instr.sameNow]
  cases hq : (s == t) with
  | true =>
   simp only [Bool.true_or]
   exact ⟨fun _ => ⟨i, by rw [h1]⟩, (fun h => by cases h)⟩
  | false =>
   simp only [Bool.false_or]
   exact ⟨i1, i2⟩
theorem getM {L : Nat} {es : Array MapEntry} {c : Nat} (hb : w.heap[L]? = some (.map es c)) : (getObj L).run P w = .ok (.map es c) w := by simp [getObj, Sem.run, hb]
theorem setM {L : Nat} {es : Array MapEntry} {c : Nat} (o : Obj) (hb : w.heap[L]? = some (.map es c)) : (setObj L o).run P w = .ok () { w with heap := w.heap.setIfInBounds L o } := by simp [setObj, Sem.run, hb]
theorem mset_mem {R n s : E} {es : Array MapEntry} {v : Value} (hs : es.size = (evI ρ n).toNat) (hv : (ev ρ s).x.v = v) (h : ∀ (j : Nat) (e : MapEntry), es[j]? = some e → e.val = .bool true ∧ ∃ str, e.key = .string str ∧ (evR ρ R j 0).v = .string str) :
 evB ρ (.mem R n s) = es.toList.any fun e => strEq e.key v := by
 show ((List.range (evI ρ n).toNat).any fun (j : Nat) => strEq (evR ρ R j 0).v (ev ρ s).x.v) = _
 rw [hv, Bool.eq_iff_iff, List.any_eq_true, List.any_eq_true]
 constructor
 ·rintro ⟨j, hj, he⟩
  have hj : j < es.size := by rw [hs]; exact List.mem_range.1 hj
  have e1 : es[j]? = some es[j] := Array.getElem?_eq_getElem hj
  obtain ⟨_, str, h2, h3⟩ := h j _ e1
  exact ⟨es[j], by simp, by rw [h2, ← h3]; exact he⟩
 ·rintro ⟨e, hm, he⟩
  obtain ⟨j, hj, rfl⟩ := List.mem_iff_getElem.1 hm
  have hj' : j < es.size := by simpa using hj
  have e1 : es[j]? = some es[j] := Array.getElem?_eq_getElem hj'
  obtain ⟨_, str, h2, h3⟩ := h j _ e1
  refine ⟨j, List.mem_range.2 (by rw [← hs]; exact hj'), ?_⟩
  rw [h3, ← h2]
  simpa using he
theorem findKey_str {kt : TypeId} {es : Array MapEntry} {str : ByteArray} (hk : P.underlying kt = some .string) (h : ∀ (j : Nat) (e : MapEntry), es[j]? = some e → e.val = .bool true ∧ ∃ str, e.key = .string str) :
 ((es.toList.any fun e => strEq e.key (.string str)) = true → ∃ j, (Instr.findKey kt (.string str) es.toList).run P w = .ok (some (j, .bool true)) w) ∧ ((es.toList.any fun e => strEq e.key (.string str)) = false → (Instr.findKey kt (.string str) es.toList).run P w = .ok none w) := by
 obtain ⟨h1, h2⟩ := findNow_str str es.toList 0 fun e he => by
  obtain ⟨j, hj, rfl⟩ := List.mem_iff_getElem.1 he
  have hj' : j < es.size := by simpa using hj
  have := h j es[j] (Array.getElem?_eq_getElem hj')
  simpa using this
 constructor
 ·intro hq
  obtain ⟨j, hf⟩ := h1 hq
  exact ⟨j, by simp [Instr.findKey, run_underlying hk, hf]⟩
 ·intro hq
  simp [Instr.findKey, run_underlying hk, h2 hq]
theorem checkKey_str {kt : TypeId} {str : ByteArray} (hk : P.underlying kt = some .string) (b : Bool) (n : Nat) : (Instr.checkKey b (n + 1) kt (.string str)).run P w = .ok () w := by
 unfold Instr.checkKey
 simp [run_underlying hk]
theorem look_ok {t kt et : TypeId} {l : Nat} {ty : TypeId} {R n s : E} {hi : Int} {m v : Value} {str : ByteArray} (ht : P.underlying t = some (.map kt et)) (hk : P.underlying kt = some .string) (hz : ((P.info? et).bind (·.zero)) = some (.bool false))
 (hl : hp[l]? = some ⟨true, ty, .mset R n hi⟩) (hh : HOk ρ B w0 ls hp w) (hm : RS ρ ls (.mp l) m) (hv : v = .string str) (hs : (ev ρ s).x.v = .string str) : (Instr.lookup t m v false).run P w = .ok (.bool (evB ρ (.mem R n s))) w := by
 obtain ⟨_, L, es, c, h1, h2, h3, h4, h5, h6, h7⟩ := hh.ent l _ hl
 obtain ⟨L', g1, rfl⟩ := hm
 rw [h1] at g1
 cases g1
 subst hv
 have hmem := mset_mem (ρ := ρ) (R := R) (n := n) (s := s) h6 hs h7
 obtain ⟨f1, f2⟩ := findKey_str (P := P) (w := w) (es := es) (str := str) hk fun j e he => ⟨(h7 j e he).1, (h7 j e he).2.imp fun _ h => h.1⟩
 have hzv : (zeroValue et).run P w = .ok (.bool false) w := by
  obtain ⟨i, e1, e2⟩ := Option.bind_eq_some_iff.1 hz
  simp [zeroValue, typeInfo, e1, e2]
 rw [hmem]
 cases hq : es.toList.any fun e => strEq e.key (.string str) with
 | true =>
  obtain ⟨j, hf⟩ := f1 hq
  simp [Instr.lookup, run_underlying ht, getM h3, checkKey_str hk, hf]
 | false =>
  simp [Instr.lookup, run_underlying ht, getM h3, checkKey_str hk, f2 hq, hzv]
theorem upd_ok {t kt et : TypeId} {l : Nat} {ty : TypeId} {R n s : E} {hi : Int} {m v : Value} {str : ByteArray} (ht : P.underlying t = some (.map kt et)) (hk : P.underlying kt = some .string)
 (hl : hp[l]? = some ⟨true, ty, .mset R n hi⟩) (hh : HOk ρ B w0 ls hp w) (hm : RS ρ ls (.mp l) m) (hv : v = .string str) (hs : (ev ρ s).x.v = .string str) (hno : evB ρ (.mem R n s) = false) (hlt : evB ρ (.lt n (.ic hi)) = true) :
 ∃ w', (Instr.mapUpdate t m v (.bool true)).run P w = .ok () w' ∧ HOk ρ B w0 ls (hp.set l ⟨true, ty, .mset (.rset R n (.ic 0) s) (eAdd n (.ic 1)) hi⟩) w' := by
 have hlt : evI ρ n < hi := of_decide_eq_true hlt
 obtain ⟨_, L, es, c, h1, h2, h3, h4, h5, h6, h7⟩ := hh.ent l _ hl
 obtain ⟨L', g1, rfl⟩ := hm
 rw [h1] at g1
 cases g1
 subst hv
 have hmem := mset_mem (ρ := ρ) (R := R) (n := n) (s := s) h6 hs h7
 obtain ⟨f1, f2⟩ := findKey_str (P := P) (w := w) (es := es) (str := str) hk fun j e he => ⟨(h7 j e he).1, (h7 j e he).2.imp fun _ h => h.1⟩
 have hL : L < w.heap.size := (Array.getElem?_eq_some_iff.1 h3).1
 refine ⟨{ w with heap := w.heap.setIfInBounds L (.map (es.push { key := .string str, val := .bool true, born := c }) (c + 1)) }, by simp [Instr.mapUpdate, run_underlying ht, getM h3, checkKey_str hk, f2 (by rw [← hmem]; exact hno), setM _ h3], hh.turn hl rfl (objGrown w L _) (.inr ⟨L, rfl, .inl (by rw [h1]; rfl)⟩) ?_⟩
 have hn' : evI ρ (eAdd n (.ic 1)) = evI ρ n + 1 := ev_eAdd ρ n (.ic 1)
 refine ⟨rfl, L, _, _, h1, h2, objSame hL, by rw [hn']; omega, by rw [hn']; omega, by rw [hn']; simp; omega, fun j e he => ?_⟩
 rw [Array.getElem?_push] at he
 split at he
 ·rename_i hj
  cases he
  refine ⟨rfl, str, rfl, ?_⟩
  show (if (j : Int) = evI ρ n ∧ (0 : Int) = 0 then (ev ρ s).x.y else _).v = _
  rw [if_pos ⟨by omega, rfl⟩]
  exact hs
 ·rename_i hj
  obtain ⟨q1, str', q2, q3⟩ := h7 j e he
  refine ⟨q1, str', q2, ?_⟩
  show (if (j : Int) = evI ρ n ∧ (0 : Int) = 0 then (ev ρ s).x.y else evR ρ R j 0).v = _
  rw [if_neg (fun h => hj (by omega))]
  exact q3
end
section
variable {P : Program} {ρ : Env} {B : Nat} {w0 w : World} {ls : Ls} {hp : SH} {tm : Tms} {a : Act} {G : E} {cf : Cfg}
theorem fIdx_ok {t el : TypeId} {len l : Nat} {k : IntKind} {e : E} {il ih : Int} {u v : Value} (ht : P.underlying t = some (.array len el)) (hsz : szOf P el = some 1) (hob : ∀ x ∈ idxOb e il ih (.ic len) len, evB ρ x = true) (hu : RS ρ ls (.ptr l 0) u) (hv : RS ρ ls (.int k e il ih) v) :
 ∃ z, (Instr.indexAt t u v).run P w = .ok z w ∧ RS ρ ls (.pf l len e) z := by
 obtain ⟨a', ha, rfl⟩ := hu
 obtain ⟨rfl, h1, h2⟩ := hv
 obtain ⟨q1, q2⟩ := idxOb_ok hob h1 h2 (Int.le_refl _)
 have q2 : evI ρ e < len := q2
 refine ⟨_, run_indexArr ht hsz ⟨q1, q2⟩, a', ha, ?_, q1, q2⟩
 rw [add_add, Nat.mul_one, Nat.zero_add]
theorem fLoad_ok {t : TypeId} {l l2 K K' : Nat} {i Q : E} {s : Sk} {hi : Int} {b b' : Bool} {ty ty' : TypeId} {u : Value} (hag : aggOf P t = some false) (hl : hp[l]? = some ⟨b, ty, .farr l2 none⟩) (hl2 : hp[l2]? = some ⟨b', ty', .fam K' Q s hi⟩) (hK : K = K') (hh : HOk ρ B w0 ls hp w) (hu : RS ρ ls (.pf l K i) u) :
 ∃ ad z, u = .pointer (some ad) ∧ (loadVar t ad).run P w = .ok z w ∧ RS ρ ls (.fs l2 i) z := by
 obtain ⟨a', ha, rfl, q1, q2⟩ := hu
 obtain ⟨_, L, vs, cs, h1, h2, h3, h4, h5, h6⟩ := hh.ent l _ hl
 obtain ⟨_, vs', g1, g2, g3, g4⟩ := hh.ent l2 _ hl2
 rw [h1] at ha
 cases ha
 rw [h2] at g1
 cases g1
 subst hK
 obtain ⟨A, n, c, p1, _⟩ := g3 (evI ρ i).toNat (by omega)
 refine ⟨_, .slice A n c, rfl, loadVar_cell hag ?_, vs, h2, p1, q1, A, n, c, rfl⟩
 rw [Addr.add_lit, cell_of_row _ _ _ _ _ _ h4, Nat.zero_add, h6 _ (fun e he => by cases he)]
 exact p1
theorem fLen_ok {l K : Nat} {i Q : E} {s : Sk} {hi : Int} {b : Bool} {ty : TypeId} {u : Value} (hl : hp[l]? = some ⟨b, ty, .fam K Q s hi⟩) (hh : HOk ρ B w0 ls hp w) (hu : RS ρ ls (.fs l i) u) :
 ∃ A n c, u = .slice A n c ∧ evI ρ (eSel Q i (.ic (-1))) = n ∧ (n : Int) ≤ hi ∧ (∀ k : Nat, k < n → skOk s (evR ρ Q (evI ρ i) k)) ∧ w.ownsRow B ty 1 (.slice A n c) n (famV s (evR ρ Q) (evI ρ i).toNat n) ∧ 0 ≤ evI ρ i ∧ (evI ρ i).toNat < K := by
 obtain ⟨vs, h1, h2, h3, _⟩ := hu
 obtain ⟨_, vs', g1, g2, g3, g4⟩ := hh.ent l _ hl
 rw [h1] at g1
 cases g1
 have hlt : (evI ρ i).toNat < K := by rw [← g2]; exact (Array.getElem?_eq_some_iff.1 h2).1
 obtain ⟨A, n, c, p1, p2, p3, p4, p5⟩ := g3 _ hlt
 rw [h2] at p1
 cases p1
 have hi' : (((evI ρ i).toNat : Nat) : Int) = evI ρ i := by omega
 rw [hi'] at p2 p4
 refine ⟨A, n, c, rfl, ?_, p3, p4, p5, h3, hlt⟩
 have e := ev_eSel ρ Q i (.ic (-1))
 have e' : (ev ρ (eSel Q i (.ic (-1)))).x.y = evR ρ Q (evI ρ i) (-1) := e
 have : evI ρ (eSel Q i (.ic (-1))) = (evR ρ Q (evI ρ i) (-1)).i := by rw [← e']; rfl
 rw [this]; exact p2
theorem fEl_ok {t el : TypeId} {l K : Nat} {k : IntKind} {i e Q : E} {s : Sk} {hi il ih : Int} {b : Bool} {ty : TypeId} {u v : Value} (ht : P.underlying t = some (.slice el)) (hsz : szOf P el = some 1) (hl : hp[l]? = some ⟨b, ty, .fam K Q s hi⟩)
 (hob : ∀ x ∈ idxOb e il ih (eSel Q i (.ic (-1))) 0, evB ρ x = true) (hh : HOk ρ B w0 ls hp w) (hu : RS ρ ls (.fs l i) u) (hv : RS ρ ls (.int k e il ih) v) :
 ∃ z, (Instr.indexAt t u v).run P w = .ok z w ∧ RS ρ ls (.fq l i e) z := by
 obtain ⟨A, n, c, rfl, h1, h2, h3, h4, h5, h6⟩ := fLen_ok hl hh hu
 obtain ⟨vs, g1, g2, g3, _⟩ := hu
 obtain ⟨rfl, r1, r2⟩ := hv
 obtain ⟨q1, q2⟩ := idxOb_ok hob r1 r2 (by rw [h1]; omega)
 rw [h1] at q2
 have hA : ∃ a0, A = some a0 := by
  rcases h4.2 with ⟨e1, e2⟩ | ⟨g, cap, cur, e1, _⟩
  ·omega
  ·injection e1 with e1; exact ⟨_, e1⟩
 obtain ⟨a0, rfl⟩ := hA
 refine ⟨_, run_indexSl ht hsz ⟨q1, q2⟩, vs, a0, n, c, g1, g2, ?_, g3, q1, by omega⟩
 rw [Nat.mul_one]
def famS (s : Sk) (Q i n : E) : Option SC := match s with
 | .int k lo hi => some (.int k (eSel Q i n) lo hi)
 | _ => none
theorem fGet_ok {t : TypeId} {l K : Nat} {i n Q : E} {s : Sk} {c : SC} {hi : Int} {b : Bool} {ty : TypeId} {u : Value} (hag : aggOf P t = some false) (hl : hp[l]? = some ⟨b, ty, .fam K Q s hi⟩) (hs : famS s Q i n = some c) (hh : HOk ρ B w0 ls hp w) (hu : RS ρ ls (.fq l i n) u) :
 ∃ ad z, u = .pointer (some ad) ∧ (loadVar t ad).run P w = .ok z w ∧ RS ρ ls c z := by
 obtain ⟨vs, a0, N, C, h1, h2, rfl, h4, h5, h6⟩ := hu
 obtain ⟨A, n', c', e1, p1, p2, p3, p4, p5, p6⟩ := fLen_ok (i := i) hl hh ⟨vs, h1, h2, h4, _, _, _, rfl⟩
 cases e1
 have hk := p3 (evI ρ n).toNat h6
 have hn : (((evI ρ n).toNat : Nat) : Int) = evI ρ n := by omega
 rw [hn] at hk
 have hg : (famV s (evR ρ Q) (evI ρ i).toNat N)[(evI ρ n).toNat]? = some (skV s (evR ρ Q (evI ρ i) (evI ρ n))) := by
  unfold famV
  rw [List.getElem?_map, List.getElem?_range h6]
  show some (skV s (evR ρ Q ((evI ρ i).toNat : Nat) ((evI ρ n).toNat : Nat))) = _
  rw [hn, show (((evI ρ i).toNat : Nat) : Int) = evI ρ i by omega]
 have hc := grow_cell p4 hg
 have e := ev_eSel ρ Q i n
 have e' : (ev ρ (eSel Q i n)).x.y = evR ρ Q (evI ρ i) (evI ρ n) := e
 have e2 : evI ρ (eSel Q i n) = (evR ρ Q (evI ρ i) (evI ρ n)).i := by rw [← e']; rfl
 unfold famS at hs
 split at hs
 ·cases hs
  exact ⟨_, _, rfl, loadVar_cell hag hc, by rw [e2]; rfl, by rw [e2]; exact hk.1, by rw [e2]; exact hk.2⟩
 ·cases hs
def findA : SH → Nat → Nat → Option Nat
 | [], _, _ => none
 | ⟨true, _, .farr l none⟩ :: r, l', n => if Nat.beq l l' then some n else findA r l' (n + 1)
 | _ :: r, l', n => findA r l' (n + 1)
theorem findA_ok : ∀ {hs : SH} {l n m : Nat}, findA hs l n = some m → n ≤ m ∧ ∃ ty, hs[m - n]? = some ⟨true, ty, .farr l none⟩
 | [], _, _, _, h => by cases h
 | x :: r, l, n, m, h => by
  have tail : findA r l (n + 1) = some m → n ≤ m ∧ ∃ ty, (x :: r)[m - n]? = some ⟨true, ty, .farr l none⟩ := fun h => by
   obtain ⟨h1, ty, h2⟩ := findA_ok h
   refine ⟨by omega, ty, ?_⟩
   rw [show m - n = (m - (n + 1)) + 1 by omega, List.getElem?_cons_succ]; exact h2
  unfold findA at h
  split at h
  ·cases h
  ·rename_i heq
   cases heq
   split at h
   ·rename_i he
    cases h
    have := Nat.eq_of_beq_eq_true he
    subst this
    exact ⟨Nat.le_refl _, _, by rw [Nat.sub_self]; rfl⟩
   ·exact tail h
  ·rename_i heq
   cases heq
   exact tail h
end
def mapT (P : Program) (t : TypeId) : Option (TypeId × TypeId) := match P.underlying t with
 | some (.map kt et) => (match isStrT P kt, (P.info? et).bind (·.zero) with | true, some (.bool false) => some (kt, et) | _, _ => none)
 | _ => none
def opFQ (P : Program) (tm : Tms) (hp : SH) (G : E) (o : Oper) : Option (SV × Ow) := match o.op with
 | .indexAddr t x y => (match opd tm G x, opd tm G y with
  | some (.c (.ptr l 0)), some (.c (.int k e il ih)) => (match P.underlying t, hp[l]? with
   | some (.array len el), some ⟨_, _, .farr _ _⟩ => if szOf P el = some 1 then some (.c (.pf l len e), ⟨idxOb e il ih (.ic len) len, none⟩) else none
   | _, _ => none)
  | some (.c (.fs l i)), some (.c (.int k e il ih)) => (match P.underlying t, hp[l]? with
   | some (.slice el), some ⟨_, _, .fam K Q s hi⟩ => if szOf P el = some 1 then some (.c (.fq l i e), ⟨idxOb e il ih (eSel Q i (.ic (-1))) 0, none⟩) else none
   | _, _ => none)
  | _, _ => none)
 | .load t x => (match opd tm G x with
  | some (.c (.pf l K i)) => (match aggOf P t, hp[l]? with
   | some false, some ⟨_, _, .farr l2 none⟩ => (match hp[l2]? with
    | some ⟨_, _, .fam K' Q s hi⟩ => if K = K' then some (.c (.fs l2 i), ⟨[], none⟩) else none
    | _ => none)
   | _, _ => none)
  | some (.c (.fq l i n)) => (match aggOf P t, hp[l]? with
   | some false, some ⟨_, _, .fam K Q s hi⟩ => (match famS s Q i n with | some c => some (.c c, ⟨[], none⟩) | none => none)
   | _, _ => none)
  | _ => none)
 | .call { callee := .builtin .len, args, argTypes } => (match args.toList, argTypes.toList with
  | [x], [t] => (match opd tm G x, isSlT P t with
   | some (.c (.fs l i)), true => (match hp[l]? with | some ⟨_, _, .fam K Q s hi⟩ => some (.c (.int .i64 (eSel Q i (.ic (-1))) 0 hi), ⟨[], none⟩) | _ => none)
   | _, _ => none)
  | _, _ => none)
 | .lookup t x y false => (match opd tm G x, opd tm G y, mapT P t with
  | some (.c (.mp l)), some (.c (.str e _)), some _ => (match hp[l]? with
   | some ⟨true, _, .mset R n hi⟩ => some (.c (.bool (.mem R n e)), ⟨[], none⟩)
   | _ => none)
  | _, _, _ => none)
 | _ => none
section
variable {P : Program} {ρ : Env} {B : Nat} {w0 w : World} {ls : Ls} {hp : SH} {tm : Tms} {a : Act} {G : E} {cf : Cfg}
theorem mapT_ok {t kt et : TypeId} (h : mapT P t = some (kt, et)) : P.underlying t = some (.map kt et) ∧ P.underlying kt = some .string ∧ (P.info? et).bind (·.zero) = some (.bool false) := by
 unfold mapT at h
 split at h
 ·rename_i ht
  split at h
  ·rename_i hs hz
   cases h
   exact ⟨ht, isStrT_ok hs, hz⟩
  ·cases h
 ·cases h
theorem opFQ_ok {o : Oper} {v : SV} {ow : Ow} (h : opFQ P tm hp G o = some (v, ow)) (hw : ow.Ok ρ) (hr : RTm ρ ls tm a) (hG : evB ρ G = true) (hh : HOk ρ B w0 ls hp w) :
 ∃ z, (execOp a.eval o).run P w = .ok (.value z) w ∧ RV ρ ls v z := by
 obtain ⟨dst, op, ty, pos, after, guard⟩ := o
 unfold opFQ at h
 simp only at h
 split at h
 ·rename_i t x y
  split at h
  ·rename_i l k e il ih hx hy
   split at h
   ·rename_i len el _ _ _ _ ht hl
    split at h
    ·rename_i hsz
     cases h
     obtain ⟨z, q1, q2⟩ := fIdx_ok ht hsz hw.1 (opd_ok hx hr hG) (opd_ok hy hr hG)
     exact ⟨z, value_of q1, q2⟩
    ·cases h
   ·cases h
  ·rename_i l i k e il ih hx hy
   split at h
   ·rename_i el _ _ K Q s hi ht hl
    split at h
    ·rename_i hsz
     cases h
     obtain ⟨z, q1, q2⟩ := fEl_ok ht hsz hl hw.1 hh (opd_ok hx hr hG) (opd_ok hy hr hG)
     exact ⟨z, value_of q1, q2⟩
    ·cases h
   ·cases h
  ·cases h
 ·rename_i t x
  split at h
  ·rename_i l K i hx
   split at h
   ·rename_i _ _ l2 hag hl
    split at h
    ·rename_i _ _ K' Q s hi hl2
     split at h
     ·rename_i hK
      cases h
      obtain ⟨ad, z, he, q1, q2⟩ := fLoad_ok hag hl hl2 hK hh (opd_ok hx hr hG)
      refine ⟨z, value_of ?_, q2⟩
      rw [he]
      simp only [Instr.loadAt, Instr.sureAddr, Sem.run_bind, Sem.run_pure, Result.andThen_ok]
      exact q1
     ·cases h
    ·cases h
   ·cases h
  ·rename_i l i n hx
   split at h
   ·rename_i _ _ K Q s hi hag hl
    split at h
    ·rename_i c hs
     cases h
     obtain ⟨ad, z, he, q1, q2⟩ := fGet_ok hag hl hs hh (opd_ok hx hr hG)
     refine ⟨z, value_of ?_, q2⟩
     rw [he]
     simp only [Instr.loadAt, Instr.sureAddr, Sem.run_bind, Sem.run_pure, Result.andThen_ok]
     exact q1
    ·cases h
   ·cases h
  ·cases h
 ·rename_i args argTypes
  split at h
  ·rename_i x t hargs hts
   split at h
   ·rename_i l i hx hsl
    split at h
    ·rename_i _ _ K Q s hi hl
     cases h
     obtain ⟨el, ht⟩ := isSlT_ok hsl
     have hv := opd_ok hx hr hG
     obtain ⟨A, n, c, e, e1, e2, _⟩ := fLen_ok hl hh hv
     have ea : args = #[x] := by rw [show args = args.toList.toArray by simp, hargs]
     have et : argTypes = #[t] := by rw [show argTypes = argTypes.toList.toArray by simp, hts]
     refine ⟨.int .i64 n, ?_, by rw [e1], by rw [e1]; omega, by rw [e1]; exact e2⟩
     subst ea et
     simp [execOp, resolve, invoke, e, builtin, Builtin.len_, run_underlying ht, goInt]
    ·cases h
   ·cases h
  ·cases h
 ·rename_i t x y
  split at h
  ·rename_i l e hi' p hx hy hm
   split at h
   ·rename_i _ R n hi hl
    cases h
    obtain ⟨m1, m2, m3⟩ := mapT_ok (kt := p.1) (et := p.2) hm
    obtain ⟨str, h1, h2, _⟩ := opd_ok hy hr hG
    exact ⟨_, value_of (look_ok m1 m2 m3 hl hh (opd_ok hx hr hG) h1 h2), rfl⟩
   ·cases h
  ·cases h
 ·cases h
theorem opFQ_okB {o : Oper} {v : SV} {ow : Ow} (h : opFQ P tm hp G o = some (v, ow)) (hw : ow.Ok ρ) (hr : RTm ρ ls tm a) (hG : evB ρ G = true) (hh : HOk ρ B w0 ls hp w) :
 setUpon P (Below w.heap.size w) w (RV ρ ls v) ((execOp a.eval o).run P w) := by
 obtain ⟨z, q1, q2⟩ := opFQ_ok h hw hr hG hh
 rw [q1]
 exact ⟨rfl, q2⟩
end
section
variable {P : Program} {ρ : Env} {B : Nat} {w0 w : World} {ls : Ls} {hp : SH} {tm : Tms} {a : Act} {G : E} {cf : Cfg}
theorem HOk.adopt (h : HOk ρ B w0 ls hp w) {ty : TypeId} {cs : List SC} {vs : List Value} {b : Nat} (hB : B ≤ b) (hb : w.heap[b]? = some (.cells vs.toArray ty (0, 0))) (hc : All2 (RS ρ ls) cs vs) (hne : ∀ (i : Nat) (x : HE), hp[i]? = some x → ¬ RdBlk ρ ls i x b) :
 HOk ρ B w0 (ls ++ [.pointer (some ⟨b, 0, none⟩)]) (hp ++ [⟨true, ty, .cells cs⟩]) w := by
 refine h.join ?_ (fun _ b' e => by cases e.ptr; exact hne) (fun b' e i y hy ly e' => ?_)
 ·refine ⟨⟨b, 0, none⟩, vs, by simp, hc.mono fun _ _ => RS.ext (Ext.snoc ls _), fun j v hv => ?_, fun _ => ⟨b, rfl, hB, hb⟩, fun e => by cases e⟩
  rw [Addr.add_lit, cell_of_row _ _ _ _ _ _ hb]; simpa using hv
 ·have e1 := e.1
  rw [show (ls ++ [Value.pointer (some ⟨b, 0, none⟩)])[ls.length]? = some (.pointer (some ⟨b, 0, none⟩)) by simp] at e1
  cases e1.ptr
  exact hne i y hy (.of_live ly e')
def maskT (ops : Array Oper) : Nat → Tms → Tms
 | 0, tm => tm
 | n + 1, tm => putT (maskT ops n tm) (dstOf ops n) unkT
def seeT (ops : Array Oper) (its : List It) : List Edge → Tms → Tms
 | [], tm => tm
 | e :: r, tm => if Region.binds .any e then (match its[e.on]? with
  | some it => seeT ops its r (putT tm (dstOf ops e.on) it.tm)
  | none => seeT ops its r tm) else seeT ops its r tm
theorem putT_get {tm : Tms} {d : Option Tmp} {t y : Tm} {e : Nat} (h : (putT tm d t).t.get e = some y) : (d = some e ∧ y = t) ∨ (d ≠ some e ∧ tm.t.get e = some y) := by
 cases d with
 | none => exact .inr ⟨by simp, h⟩
 | some d =>
  rcases Tr.get_set h with ⟨h1, h2⟩ | ⟨h1, h2⟩
  ·exact .inl ⟨by rw [h1], h2⟩
  ·exact .inr ⟨fun e => h1 (by cases e; rfl), h2⟩
theorem maskT_get {ops : Array Oper} {y : Tm} {e : Nat} : ∀ {n : Nat} {tm : Tms}, (maskT ops n tm).t.get e = some y → y = unkT ∨ ((∀ i, i < n → dstOf ops i ≠ some e) ∧ tm.t.get e = some y)
 | 0, tm, h => .inr ⟨fun i hi => by omega, h⟩
 | n + 1, tm, h => by
  rcases putT_get h with ⟨_, h2⟩ | ⟨h1, h2⟩
  ·exact .inl h2
  ·rcases maskT_get h2 with h3 | ⟨h3, h4⟩
   ·exact .inl h3
   ·refine .inr ⟨fun i hi => ?_, h4⟩
    by_cases hin : i = n
    ·subst hin; exact h1
    ·exact h3 i (by omega)
theorem maskT_n {ops : Array Oper} : ∀ {n : Nat} {tm : Tms}, (maskT ops n tm).n = tm.n
 | 0, _ => rfl
 | n + 1, tm => by rw [maskT, putT_len, maskT_n]
theorem seeT_get {ops : Array Oper} {its : List It} {y : Tm} {d : Nat} : ∀ {es : List Edge} {tm : Tms}, (seeT ops its es tm).t.get d = some y → (∃ e ∈ es, Region.binds .any e = true ∧ ∃ it, its[e.on]? = some it ∧ dstOf ops e.on = some d ∧ y = it.tm) ∨ tm.t.get d = some y
 | [], tm, h => .inr h
 | e :: r, tm, h => by
  simp only [seeT] at h
  split at h
  ·rename_i hb
   split at h
   ·rename_i it hit
    rcases seeT_get h with ⟨e', he', h1⟩ | h1
    ·exact .inl ⟨e', by simp [he'], h1⟩
    ·rcases putT_get h1 with ⟨h2, h3⟩ | ⟨_, h3⟩
     ·exact .inl ⟨e, by simp, hb, it, hit, h2, h3⟩
     ·exact .inr h3
   ·rcases seeT_get h with ⟨e', he', h1⟩ | h1
    ·exact .inl ⟨e', by simp [he'], h1⟩
    ·exact .inr h1
  ·rcases seeT_get h with ⟨e', he', h1⟩ | h1
   ·exact .inl ⟨e', by simp [he'], h1⟩
   ·exact .inr h1
theorem seeT_n {ops : Array Oper} {its : List It} : ∀ {es : List Edge} {tm : Tms}, (seeT ops its es tm).n = tm.n
 | [], _ => rfl
 | e :: r, tm => by
  simp only [seeT]
  split
  ·split
   ·rw [seeT_n, putT_len]
   ·exact seeT_n
  ·exact seeT_n
def SC.free : SC → Bool
 | .und | .int .. | .bool _ | .cst _ | .opv _ | .str _ _ | .ln _ _ | .gl _ _ => true
 | .fn _ a b => a.isEmpty && b.isEmpty
 | _ => false
def SV.free : SV → Bool
 | .c s => s.free
 | .agg l => l.all SC.free
 | .tup l => l.all fun x => x.2.all SC.free
theorem RS.free {ls' : Ls} {s : SC} {v : Value} (hs : s.free = true) (h : RS ρ ls s v) : RS ρ ls' s v := by
 cases s <;> first | exact Bool.noConfusion (show false = true from hs) | skip
 case fn f a b =>
  simp only [SC.free, Bool.and_eq_true, List.isEmpty_iff] at hs
  obtain ⟨rfl, rfl⟩ := hs
  obtain ⟨fs, cs, h1, h2, h3⟩ := h
  cases fs with
  | cons _ _ => exact h2.elim
  | nil => cases cs with
   | cons _ _ => exact h3.elim
   | nil => exact ⟨[], [], h1, trivial, trivial⟩
 all_goals exact h
theorem RSs.free {ls' : Ls} : ∀ {l : List SC} {vs : List Value}, l.all SC.free = true → All2 (RS ρ ls) l vs → All2 (RS ρ ls') l vs
 | [], [], _, _ => trivial
 | _ :: _, _ :: _, h, hr => by
  simp only [List.all_cons, Bool.and_eq_true] at h
  exact ⟨RS.free h.1 hr.1, RSs.free h.2 hr.2⟩
theorem REs.free {ls' : Ls} : ∀ {l : List (Bool × List SC)} {vs : List Value}, (l.all fun x => x.2.all SC.free) = true → All2 (RE ρ ls) l vs → All2 (RE ρ ls') l vs
 | [], [], _, _ => trivial
 | (true, l) :: _, _ :: _, h, hr => by
  simp only [List.all_cons, Bool.and_eq_true] at h
  obtain ⟨⟨us, e, h1⟩, h2⟩ := hr
  exact ⟨⟨us, e, RSs.free h.1 h1⟩, REs.free h.2 h2⟩
 | (false, [s]) :: _, _ :: _, h, hr => by
  simp only [List.all_cons, List.all_nil, Bool.and_true, Bool.and_eq_true] at h
  exact ⟨RS.free h.1 hr.1, REs.free h.2 hr.2⟩
 | (false, []) :: _, _ :: _, _, hr => hr.1.elim
 | (false, _ :: _ :: _) :: _, _ :: _, _, hr => hr.1.elim
theorem RV.free {ls' : Ls} {s : SV} {v : Value} (hs : s.free = true) (h : RV ρ ls s v) : RV ρ ls' s v := by
 cases s with
 | c s => exact RS.free hs h
 | agg l => obtain ⟨us, e, h1⟩ := h; exact ⟨us, e, RSs.free hs h1⟩
 | tup l => obtain ⟨us, e, h1⟩ := h; exact ⟨us, e, REs.free hs h1⟩
theorem RVs.free {ls' : Ls} : ∀ {l : List SV} {vs : List Value}, l.all SV.free = true → All2 (RV ρ ls) l vs → All2 (RV ρ ls') l vs
 | [], [], _, _ => trivial
 | _ :: _, _ :: _, h, hr => by
  simp only [List.all_cons, Bool.and_eq_true] at h
  exact ⟨RV.free h.1 hr.1, RVs.free h.2 hr.2⟩
def Fm.mrg : Fm → Option (List E × SV)
 | .leaf v _ => if v.free then some ([], v) else none
 | .and (.imp g a) (.imp g' b) => if eqE g' (eNot g) then (match a.mrg, b.mrg with
  | some (oa, x), some (ob, y) => (match iteSV g x y with | some z => some (oa.map (eOr (eNot g)) ++ ob.map (eOr g), z) | none => none)
  | _, _ => none) else none
 | .and (.imp g (.tst e)) f => (match f.mrg with | some (o, v) => some (eOr (eNot g) e :: o, v) | none => none)
 | .and (.tst e) f => (match f.mrg with | some (o, v) => some (e :: o, v) | none => none)
 | _ => none
def LeafOk (ρ : Env) (B : Nat) (w0 : World) (R0 : Ending → World → Prop) (v : SV) (hp : SH) : Prop := ∀ k ls w' val, HOk (ρ.wk k) B w0 ls hp w' → RV (ρ.wk k) ls v val → R0 (.returned val) w'
theorem holds_wk {B : Nat} {w0 : World} {R0 : Ending → World → Prop} (k : Nat → Option Loop) : ∀ {F : Fm} {ρ : Env}, F.holds (fun ρ => LeafOk ρ B w0 R0) ρ → F.holds (fun ρ => LeafOk ρ B w0 R0) (ρ.wk k)
 | .tru, _, _ => trivial
 | .fls, _, h => h.elim
 | .and _ _, _, h => ⟨holds_wk k h.1, holds_wk k h.2⟩
 | .imp g _, ρ, h => fun hg => holds_wk k (h ((evP_wk ρ k g).1 hg))
 | .tst e, ρ, h => (evP_wk ρ k e).2 h
 | .pre n A, ρ, h => by
  show ρ.p n (ev (ρ.wk k) A).l
  rw [ev_wk]; exact h
 | .leaf v hp, ρ, h => fun k' ls w' val hh hr => h k' ls w' val hh hr
 | .all m _, ρ, h => fun y => holds_wk k (ρ := ρ.setx m y) (h y)
 | .impP n A _, ρ, h => fun hp => holds_wk k (h (by
  have hp' : ρ.p n (ev (ρ.wk k) A).l := hp
  rw [ev_wk] at hp'; exact hp'))
 | .rowH sh R n hi _, ρ, h => fun hp => holds_wk k (h (by
  rw [evI_wk, evR_wk] at hp; exact hp))
theorem mrg_ok {B : Nat} {w0 : World} {F : Fm} {obs : List E} {v : SV} {R0 : Ending → World → Prop} (h : F.mrg = some (obs, v)) (ho : ∀ e ∈ obs, evB ρ e = true) (hk : ∀ w' val, Below B w0 w' → RV ρ [] v val → R0 (.returned val) w') : F.holds (fun ρ => LeafOk ρ B w0 R0) ρ := by
 have hor : ∀ a b : E, evB ρ (eOr a b) = (evB ρ a || evB ρ b) := fun a b => ev_eOr ρ a b
 have hnot : ∀ a : E, evB ρ (eNot a) = !evB ρ a := fun a => ev_eNot ρ a
 fun_induction Fm.mrg F generalizing obs v R0 with
 | case1 v' hp hf =>
  cases h
  exact fun k ls w' val hh hr => hk w' val hh.below (RV.free hf (by rw [RV_wk] at hr; exact hr))
 | case3 g a g' b he oa x ob y hx hy z hz ih1 ih2 =>
  cases h
  have he' := eqE_eq he
  subst he'
  refine ⟨fun hg => ?_, fun hg => ?_⟩
  ·have hg' : evB ρ g = true := (evP_iff ρ g).1 hg
   refine ih1 (by assumption) (fun e hm => ?_) (fun w' val hb hr => hk w' val hb ?_)
   ·have := ho (eOr (eNot g) e) (List.mem_append_left _ (List.mem_map.2 ⟨e, hm, rfl⟩))
    rw [hor, hnot, hg'] at this
    simpa using this
   ·have := iteSV_ok (u := val) (v := val) hz (fun _ => hr) (fun e => by rw [hg'] at e; cases e)
    rw [hg'] at this; exact this
  ·have hg' : evB ρ (eNot g) = true := (evP_iff ρ _).1 hg
   rw [hnot, Bool.not_eq_true'] at hg'
   refine ih2 (by assumption) (fun e hm => ?_) (fun w' val hb hr => hk w' val hb ?_)
   ·have := ho (eOr g e) (List.mem_append_right _ (List.mem_map.2 ⟨e, hm, rfl⟩))
    rw [hor, hg'] at this
    simpa using this
   ·have := iteSV_ok (u := val) (v := val) hz (fun e => by rw [hg'] at e; cases e) (fun _ => hr)
    rw [hg'] at this; exact this
 | case7 g e f _ o v' hf ih =>
  cases h
  refine ⟨fun hg => ?_, ih (by assumption) (fun x hx => ho x (List.mem_cons_of_mem _ hx)) hk⟩
  have hg' : evB ρ g = true := (evP_iff ρ g).1 hg
  have := ho _ (List.mem_cons_self ..)
  rw [hor, hnot, hg'] at this
  exact (evP_iff ρ e).2 (by simpa using this)
 | case9 e f o v' hf ih =>
  cases h
  exact ⟨(evP_iff ρ e).2 (ho _ (List.mem_cons_self ..)), ih (by assumption) (fun x hx => ho x (List.mem_cons_of_mem _ hx)) hk⟩
 | _ => cases h
abbrev Sm := Func → Code → List SV → Option (List E × SV)
def SmOk (P : Program) (ρ : Env) (sm : Sm) : Prop := ∀ (f : FuncId) (fn : Func) (c : Code) (vs : List SV) (obs : List E) (v : SV) (us : List Value) (w : World), P.funcs[f]? = some fn → fn.body = some c → sm fn c vs = some (obs, v) → (∀ e ∈ obs, evB ρ e = true) → GlobOk ρ.g w.heap.size w → All2 (RV ρ []) vs us →
 Calls P f us.toArray w fun e w' => ∃ val, e = .returned val ∧ RV ρ [] v val ∧ Below w.heap.size w w'
def sumOf (cf : Cfg) (sm : Sm) (tm : Tms) (G : E) (o : Oper) : Option (List E × SV) :=
 match o.op with
 | .call { callee := .value f, args, .. } => (match opd tm G f, opds tm G args.toList with
  | some (.c (.fn f [] [])), some vs => if (cf.sums.any fun x => x == f) && vs.all SV.free then (match lookFn cf.fns f with
   | some fn => (match fn.body with | some c => sm fn c vs | none => none)
   | none => none) else none
  | _, _ => none)
 | _ => none
def opQ2 (P : Program) (cf : Cfg) (sm : Sm) (tm : Tms) (hp : SH) (G : E) (o : Oper) : Option (SV × Ow) :=
 match opQuiet P cf tm hp G o with
 | some r => some r
 | none => (match sumOf cf sm tm G o with | some (obs, v) => some (v, ⟨obs, none⟩) | none => opFQ P tm hp G o)
theorem opQ2_okB {sm : Sm} {o : Oper} {s : SV} {ow : Ow} (hsm : SmOk P ρ sm) (h : opQ2 P cf sm tm hp G o = some (s, ow)) (hc : CfgOk P ρ cf) (hp' : ow.Ok ρ) (hr : RTm ρ ls tm a) (hG : evB ρ G = true) (hh : HOk ρ B w0 ls hp w) :
 setUpon P (Below w.heap.size w) w (RV ρ ls s) ((execOp a.eval o).run P w) := by
 unfold opQ2 at h
 split at h
 ·rename_i r hr'
  cases h
  exact opQuiet_okB hr' hc hp' hr hG hh
 ·split at h
  ·rename_i obs v hv
   cases h
   unfold sumOf at hv
   split at hv
   ·rename_i f args at_ ho
    split at hv
    ·rename_i f' vs hf hvs
     split at hv
     ·rename_i hif
      simp only [Bool.and_eq_true] at hif
      split at hv
      ·rename_i fn hfn
       split at hv
       ·rename_i c hb
        obtain ⟨f1, f2⟩ := hc.fns _ _ hfn
        obtain ⟨fs, cs, he, h1, h2⟩ := opd_ok hf hr hG
        have hfs : fs = [] := by cases fs with | nil => rfl | cons _ _ => exact h1.elim
        have hcs : cs = [] := by cases cs with | nil => rfl | cons _ _ => exact h2.elim
        subst hfs hcs
        have e : args.map a.eval = (args.toList.map a.eval).toArray := by rw [← Array.toList_map]
        have hrun : (execOp a.eval o).run P w = .ok (.enter f' (args.toList.map a.eval).toArray) w := by
         simp only [execOp, ho, resolve, he, Deferred.ofValue, Sem.run_bind, Sem.run_pure, Result.andThen_ok, invoke, e]
         rw [run_callFunc f1 (by rw [hb]; rfl) f2]
         simp
        rw [hrun]
        refine ⟨rfl, ?_⟩
        exact (hsm f' fn c vs obs s _ w f1 hb hv hp'.1 (hh.glob.up hh.size) (RVs.free hif.2 (opds_ok hr hG hvs))).mono fun e' w' ⟨val, g1, g2, g3⟩ => by
         have hfree : RV ρ ls s val := by
          exact RV.ext (fun i b hi => by simp at hi) g2
         exact ⟨val, g1, hfree, g3⟩
       ·cases hv
      ·cases hv
     ·cases hv
    ·cases hv
   ·cases hv
  ·exact opFQ_okB h hp' hr hG hh
theorem opQ2_ok {sm : Sm} {o : Oper} {s : SV} {ow : Ow} (hsm : SmOk P ρ sm) (h : opQ2 P cf sm tm hp G o = some (s, ow)) (hc : CfgOk P ρ cf) (hp' : ow.Ok ρ) (hr : RTm ρ ls tm a) (hG : evB ρ G = true) (hh : HOk ρ B w0 ls hp w) :
 setUpon P (HOk ρ B w0 ls hp) w (RV ρ ls s) ((execOp a.eval o).run P w) := (opQ2_okB hsm h hc hp' hr hG hh).cls fun _ hb => hh.calls hb
end
end Vc
end Go.Proofs.YtelbilnnmmbmdaaDoor
namespace Go.Proofs.YtelbilnnmmbmdaaDoor
namespace Vc
open Go Go.RowKit
set_option linter.unusedVariables false
structure QR where
 its : List It
 ows : List (E × Ow)
 rest : List Oper
def isNew (P : Program) (cf : Cfg) (tm : Tms) (hp : SH) (o : Oper) : Option (It × Ow) := match o.op with
 | .alloc t => (match zeroCells P t with | some l => some (.new none t l, ⟨[], none⟩) | none => none)
 | .box t x => (match opd tm (.bc true) x with
  | some v => (match svCells v with | some l => some (.new none t l, ⟨[], none⟩) | none => none)
  | none => none)
 | .buildSlice t len ps => if Nat.blt 0 len then (match partsOf tm (.bc true) ps.toList with
  | some qs => (match sbuildSlice P t len qs with | some (el, cs) => some (.new (some len) el cs, ⟨[], none⟩) | none => none)
  | none => none) else none
 | .call { callee := .value f, args, .. } => (match opd tm (.bc true) f with
  | some (.c (.fn f [] [])) => (match opds tm (.bc true) args.toList with
   | some vs => (match findRC (rcFor cf f vs) f hp vs with
    | some (c, es, obs) => if Nat.ble (rowsR c.fs c.res).length 1 then some (.res c es, ⟨obs, preOf cf c.pre es⟩) else none
    | none => none)
   | none => none)
  | _ => none)
 | _ => none
def hidB (its : List It) (o : Oper) (v : SV) : Bool := (match v with | .c .und => true | _ => false) && o.after.toList.any fun e => match its[e.on]? with
 | some (.val _) => false
 | some _ => true
 | none => false
def findNew (all : Array Oper) (its : List It) (d : Tmp) : List Edge → Option (Nat × Nat)
 | [] => none
 | e :: r => if Region.binds .any e then (match its[e.on]?, dstOf all e.on with
  | some (.new none _ cs), some d' => if Nat.beq d' d then some (e.on, cs.length) else findNew all its d r
  | _, _ => findNew all its d r) else findNew all its d r
def putOf (P : Program) (all : Array Oper) (its : List It) (tm : Tms) (o : Oper) : Option (Nat × List SC) := match o.op, o.dst with
 | .store t (.tmp d) x, none => (match findNew all its d o.after.toList, opd tm (.bc true) x, szOf P t with
  | some (i, n), some v, some m => (match svCells v with
   | some cs => if Nat.beq cs.length n && Nat.beq m n then some (i, cs) else none
   | none => none)
  | _, _, _ => none)
 | _, _ => none
def regL (P : Program) (cf : Cfg) (sm : Sm) (hp : SH) (neg : List E) (all : Array Oper) (tmM : Tms) : List Oper → List It → List (E × Ow) → QR
 | [], its, ows => ⟨its, ows, []⟩
 | o :: r, its, ows => match guardOf (seeT all its o.after.toList tmM) all neg o.guard with
  | none => ⟨its, ows, o :: r⟩
  | some none => regL P cf sm hp neg all tmM r (its ++ [.val undT]) ows
  | some (some G) => match opQ2 P cf.q sm (seeT all its o.after.toList tmM) hp G o with
   | some (v, ow) => if hidB its o v then ⟨its, ows, o :: r⟩ else regL P cf sm hp neg all tmM r (its ++ [.val ⟨G, nz neg v⟩]) (if ow.none? then ows else (G, ow) :: ows)
   | none => if isT G && o.dst.isSome then (match isNew P cf (seeT all its o.after.toList tmM) hp o with
    | some (it, ow) => regL P cf sm hp neg all tmM r (its ++ [it]) (if ow.none? then ows else (G, ow) :: ows)
    | none => ⟨its, ows, o :: r⟩) else if isT G then (match putOf P all its (seeT all its o.after.toList tmM) o with
    | some (i, cs) => regL P cf sm hp neg all tmM r (its ++ [.put i cs]) ows
    | none => ⟨its, ows, o :: r⟩) else ⟨its, ows, o :: r⟩
section
variable {P : Program} {ρ : Env} {B : Nat} {w0 w : World} {ls : Ls} {hp : SH} {tm tmM : Tms} {a : Act} {G : E} {cf : Cfg} {sm : Sm} {neg : List E} {all : Array Oper}
def Pre (pre its : List It) : Prop := ∀ (j : Nat) (it : It), pre[j]? = some it → its[j]? = some it
def ItOk (P : Program) (cf : Cfg) (sm : Sm) (hp : SH) (neg : List E) (all : Array Oper) (tmM : Tms) (its : List It) (ows : List (E × Ow)) (k : Nat) (o : Oper) : Prop :=
 ∃ pre, Pre pre its ∧ ((guardOf (seeT all pre o.after.toList tmM) all neg o.guard = some none ∧ its[k]? = some (.val undT)) ∨
  (∃ G v ow, guardOf (seeT all pre o.after.toList tmM) all neg o.guard = some (some G) ∧ opQ2 P cf.q sm (seeT all pre o.after.toList tmM) hp G o = some (v, ow) ∧ its[k]? = some (.val ⟨G, nz neg v⟩) ∧ (ow.none? = true ∨ (G, ow) ∈ ows)) ∨
  (∃ G it ow, guardOf (seeT all pre o.after.toList tmM) all neg o.guard = some (some G) ∧ isT G = true ∧ o.dst.isSome = true ∧ isNew P cf (seeT all pre o.after.toList tmM) hp o = some (it, ow) ∧ its[k]? = some it ∧ (ow.none? = true ∨ (G, ow) ∈ ows)) ∨
  (∃ G i cs, guardOf (seeT all pre o.after.toList tmM) all neg o.guard = some (some G) ∧ isT G = true ∧ putOf P all pre (seeT all pre o.after.toList tmM) o = some (i, cs) ∧ its[k]? = some (.put i cs)))
theorem regL_spec : ∀ {l : List Oper} {its : List It} {ows : List (E × Ow)} {q : QR}, regL P cf sm hp neg all tmM l its ows = q →
 Pre its q.its ∧ (∀ x ∈ ows, x ∈ q.ows) ∧ its.length ≤ q.its.length ∧ ∀ k o, its.length + k < q.its.length → l[k]? = some o → ItOk P cf sm hp neg all tmM q.its q.ows (its.length + k) o
 | [], its, ows, q, h => by subst h; exact ⟨fun _ _ h => h, fun _ h => h, Nat.le_refl _, fun k o h => by simp only [regL] at h; omega⟩
 | o :: r, its, ows, q, h => by
  have stop : q = ⟨its, ows, o :: r⟩ → Pre its q.its ∧ (∀ x ∈ ows, x ∈ q.ows) ∧ its.length ≤ q.its.length ∧ ∀ k o', its.length + k < q.its.length → (o :: r)[k]? = some o' → ItOk P cf sm hp neg all tmM q.its q.ows (its.length + k) o' := fun e => by
   subst e; exact ⟨fun _ _ h => h, fun _ h => h, Nat.le_refl _, fun k o h => by simp only at h; omega⟩
  have more : ∀ {it : It} {ows' : List (E × Ow)}, regL P cf sm hp neg all tmM r (its ++ [it]) ows' = q → (∀ x ∈ ows, x ∈ ows') →
   (Pre its q.its → q.its[its.length]? = some it → (∀ x ∈ ows', x ∈ q.ows) → ItOk P cf sm hp neg all tmM q.its q.ows its.length o) →
   Pre its q.its ∧ (∀ x ∈ ows, x ∈ q.ows) ∧ its.length ≤ q.its.length ∧ ∀ k o', its.length + k < q.its.length → (o :: r)[k]? = some o' → ItOk P cf sm hp neg all tmM q.its q.ows (its.length + k) o' := fun {it ows'} h how hit => by
   obtain ⟨h1, h2, h3, h4⟩ := regL_spec h
   have hp1 : Pre its q.its := fun j it' hj => h1 j it' (by rw [List.getElem?_append_left (List.getElem?_eq_some_iff.1 hj).1]; exact hj)
   simp only [List.length_append, List.length_singleton] at h3 h4
   refine ⟨hp1, fun x hx => h2 x (how x hx), by omega, fun k o' hk ho => ?_⟩
   cases k with
   | zero => simp at ho; subst ho; exact hit hp1 (h1 _ _ (by simp)) h2
   | succ k =>
    simp at ho
    have := h4 k o' (by omega) ho
    rwa [show its.length + 1 + k = its.length + (k + 1) by omega] at this
  simp only [regL] at h
  split at h
  ·exact stop h.symm
  ·rename_i hg
   exact more h (fun _ h => h) fun hp1 hk _ => ⟨its, hp1, .inl ⟨hg, hk⟩⟩
  ·rename_i G hg
   split at h
   ·rename_i v ow hv
    split at h
    ·exact stop h.symm
    refine more h (fun x hx => by split; exact hx; exact List.mem_cons_of_mem _ hx) fun hp1 hk hm => ⟨its, hp1, .inr (.inl ⟨G, v, ow, hg, hv, hk, ?_⟩)⟩
    cases hn : ow.none?
    ·rw [hn] at hm; exact .inr (hm _ (by simp))
    ·exact .inl rfl
   ·split at h
    ·rename_i hif
     simp only [Bool.and_eq_true] at hif
     split at h
     ·rename_i it ow hit
      refine more h (fun x hx => by split; exact hx; exact List.mem_cons_of_mem _ hx) fun hp1 hk hm => ⟨its, hp1, .inr (.inr (.inl ⟨G, it, ow, hg, hif.1, hif.2, hit, hk, ?_⟩))⟩
      cases hn : ow.none?
      ·rw [hn] at hm; exact .inr (hm _ (by simp))
      ·exact .inl rfl
     ·exact stop h.symm
    ·split at h
     ·rename_i hT
      split at h
      ·rename_i i cs hput
       exact more h (fun _ h => h) fun hp1 hk _ => ⟨its, hp1, .inr (.inr (.inr ⟨G, i, cs, hg, hT, hput, hk⟩))⟩
      ·exact stop h.symm
     ·exact stop h.symm
def newV (sl : Option Nat) (b : Nat) : Value := match sl with
 | none => .pointer (some ⟨b, 0, none⟩)
 | some n => .slice (some ⟨b, 0, none⟩) n n
def newS (sl : Option Nat) (l : Nat) : SC := match sl with
 | none => .ptr l 0
 | some n => .sc l 0 n n
def ItV (ρ : Env) (cf : Cfg) (ls : Ls) (N : Nat) (w : World) (ob : Option Nat) : It → Value → Prop
 | .val t, v => RT ρ ls t v
 | .new sl ty cs, v => ∃ b vs, ob = some b ∧ v = newV sl b ∧ N ≤ b ∧ w.heap[b]? = some (.cells (List.toArray vs) ty (0, 0)) ∧ All2 (RS ρ ls) cs vs
 | .res c es, v => ∃ u, ob = blkOf (some u) ∧ Res ρ cf c es N w u v
 | .put _ _, _ => True
theorem ItV.keptR {N : Nat} {w' : World} {ob : Option Nat} {it : It} {v : Value} {row : Option Nat} (h : ItV ρ cf ls N w ob it v) (hg : w.grownBy w' row) (hN : ∀ b, row = some b → N ≤ b) (hne : ∀ b, ob = some b → row ≠ some b) : ItV ρ cf ls N w' ob it v := by
 cases it with
 | val t => exact h
 | new sl ty cs =>
  obtain ⟨b, vs, h0, h1, h2, h3, h4⟩ := h
  exact ⟨b, vs, h0, h1, h2, by rw [hg.block b (Array.getElem?_eq_some_iff.1 h3).1 (fun e => hne b h0 e.symm)]; exact h3, h4⟩
 | res c es =>
  obtain ⟨u, h0, h1⟩ := h
  exact ⟨u, h0, h1.keptR hg hN fun b hb => hne b (h0.trans hb)⟩
 | put _ _ => trivial
theorem ItV.kept {N : Nat} {w' : World} {ob : Option Nat} {it : It} {v : Value} (h : ItV ρ cf ls N w ob it v) (hg : w.grownBy w' none) : ItV ρ cf ls N w' ob it v := h.keptR hg (fun _ e => by cases e) (fun _ _ e => by cases e)
def It.fresh : It → Bool
 | .val _ => false
 | .put _ _ => false
 | _ => true
def curC : List It → Nat → (Nat → Bool) → Nat → List SC → List SC
 | [], _, _, _, cs => cs
 | .put j cs' :: r, k, p, i, cs => if Nat.beq j i && p k then cs' else curC r (k + 1) p i cs
 | _ :: r, k, p, i, cs => curC r (k + 1) p i cs
def curIt (its : List It) (p : Nat → Bool) (i : Nat) : It → It
 | .new sl ty cs => .new sl ty (curC its 0 p i cs)
 | it => it
theorem curIt_fresh {its : List It} {p : Nat → Bool} {i : Nat} {it : It} : (curIt its p i it).fresh = it.fresh := by cases it <;> rfl
theorem curC_congr {p q : Nat → Bool} {i : Nat} {cs : List SC} : ∀ {l : List It} {k : Nat}, (∀ j c, l[j]? = some (.put i c) → p (k + j) = q (k + j)) → curC l k p i cs = curC l k q i cs
 | [], _, _ => rfl
 | x :: r, k, h => by
  have ih : curC r (k + 1) p i cs = curC r (k + 1) q i cs := curC_congr fun j c hj => by
   have := h (j + 1) c (by simpa using hj)
   rwa [show k + (j + 1) = k + 1 + j by omega] at this
  cases x with
  | put j c =>
   simp only [curC]
   rw [ih]
   by_cases hj : j = i
   ·subst hj
    rw [show p k = q k from h 0 c (by simp)]
   ·rw [if_neg (by simp [hj]), if_neg (by simp [hj])]
  | val t => exact ih
  | new a b c => exact ih
  | res a b => exact ih
theorem curC_none {p : Nat → Bool} {i : Nat} {cs : List SC} : ∀ {l : List It} {k : Nat}, (∀ j c, l[j]? = some (.put i c) → p (k + j) = false) → curC l k p i cs = cs
 | [], _, _ => rfl
 | x :: r, k, h => by
  have ih : curC r (k + 1) p i cs = cs := curC_none fun j c hj => by
   have := h (j + 1) c (by simpa using hj)
   rwa [show k + (j + 1) = k + 1 + j by omega] at this
  cases x with
  | put j c =>
   simp only [curC]
   rw [ih]
   by_cases hj : j = i
   ·subst hj
    rw [show p k = false from h 0 c (by simp)]; simp
   ·rw [if_neg (by simp [hj])]
  | val t => exact ih
  | new a b c => exact ih
  | res a b => exact ih
theorem curC_one {p : Nat → Bool} {i : Nat} {cs cs' : List SC} : ∀ {l : List It} {k j : Nat}, l[j]? = some (.put i cs') → p (k + j) = true → (∀ j' c, l[j']? = some (.put i c) → j' = j) → curC l k p i cs = cs'
 | [], _, _, h, _, _ => by simp at h
 | x :: r, k, 0, h, hp, hu => by
  simp at h; subst h
  simp only [curC]
  rw [if_pos (by simpa using hp)]
 | x :: r, k, j + 1, h, hp, hu => by
  have ih : curC r (k + 1) p i cs = cs' := curC_one (j := j) (by simpa using h) (by rwa [show k + 1 + j = k + (j + 1) by omega]) fun j' c hj => by
   have := hu (j' + 1) c (by simpa using hj)
   omega
  cases x with
  | put j' c =>
   simp only [curC]
   by_cases hj : j' = i
   ·subst hj
    have := hu 0 c (by simp)
    omega
   ·rw [if_neg (by simp [hj])]; exact ih
  | val t => exact ih
  | new a b c => exact ih
  | res a b => exact ih
def putsB : List It → Bool
 | [] => true
 | .put i _ :: r => (r.all fun x => match x with | .put j _ => !(Nat.beq i j) | _ => true) && putsB r
 | _ :: r => putsB r
theorem putsB_ok : ∀ {l : List It}, putsB l = true → ∀ {i j k : Nat} {c d : List SC}, l[j]? = some (.put i c) → l[k]? = some (.put i d) → j = k
 | [], _, i, j, k, c, d, hj, _ => by simp at hj
 | x :: r, h, i, j, k, c, d, hj, hk => by
  have hr : putsB r = true := by
   cases x with
   | put a b => simp only [putsB, Bool.and_eq_true] at h; exact h.2
   | val t => exact h
   | new a b c => exact h
   | res a b => exact h
  have no : ∀ {m : Nat} {e e' : List SC}, x = .put i e → r[m]? = some (.put i e') → False := fun {m e e'} hx hm => by
   subst hx
   simp only [putsB, Bool.and_eq_true] at h
   have := List.all_eq_true.1 h.1 _ (List.mem_of_getElem? hm)
   simp at this
  cases j with
  | zero => cases k with
   | zero => rfl
   | succ k => exact (no (by simpa using hj) (by simpa using hk)).elim
  | succ j => cases k with
   | zero => exact (no (by simpa using hk) (by simpa using hj)).elim
   | succ k => rw [putsB_ok hr (i := i) (j := j) (k := k) (by simpa using hj) (by simpa using hk)]
structure PutsOk (all : Array Oper) (n : Nat) (its : List It) : Prop where
 uniq : ∀ {i j k : Nat} {c d : List SC}, its[j]? = some (.put i c) → its[k]? = some (.put i d) → j = k
 dep : ∀ {i j : Nat} {c : List SC}, its[j]? = some (.put i c) → ∃ o, all[j]? = some o ∧ o.dst = none ∧ ∃ e ∈ o.after, Region.binds .any e = true ∧ e.on = i
theorem curIt_set {its : List It} {listed : Array Bool} {i j : Nat} {it x : It} (hit : its[i]? = some it) (hnp : ∀ t c, it ≠ .put t c) : curIt its (fun k => (listed.setIfInBounds i true).getD k false) j x = curIt its (fun k => listed.getD k false) j x := by
 cases x with
 | new sl ty cs =>
  simp only [curIt]
  rw [curC_congr (q := fun k => listed.getD k false) fun k c hk => ?_]
  simp only [Nat.zero_add]
  refine getD_set_ne false fun e => ?_
  subst e
  rw [hit] at hk; cases hk
  exact hnp _ _ rfl
 | val t => rfl
 | res a b => rfl
 | put a b => rfl
theorem ItV.lt {N : Nat} {ob : Option Nat} {it : It} {v : Value} {b : Nat} (h : ItV ρ cf ls N w ob it v) (hf : it.fresh = true) (hb : ob = some b) : N ≤ b ∧ b < w.heap.size := by
 cases it with
 | val t => cases hf
 | new sl ty cs =>
  obtain ⟨b', vs, h0, h1, h2, h3, h4⟩ := h
  rw [hb] at h0; cases h0
  exact ⟨h2, (Array.getElem?_eq_some_iff.1 h3).1⟩
 | res c es =>
  obtain ⟨u, h0, h1⟩ := h
  exact h1.blk b (by rw [← h0]; exact hb)
 | put _ _ => cases hf
def Held (ρ : Env) (cf : Cfg) (ls : Ls) (ops : Array Oper) (n : Nat) (its : List It) (N : Nat) (listed : Array Bool) (a : Act) (w : World) (bl : Nat → Option Nat) : Prop :=
 (∀ i it d, i < n → listed.getD i false = true → its[i]? = some it → dstOf ops i = some d → ItV ρ cf ls N w (bl i) (curIt its (fun j => listed.getD j false) i it) (a.tmps.getD d undef)) ∧
 ∀ i j x y d e b, i < n → j < n → i ≠ j → listed.getD i false = true → listed.getD j false = true → its[i]? = some x → its[j]? = some y → x.fresh = true → y.fresh = true → dstOf ops i = some d → dstOf ops j = some e → bl i = some b → bl j ≠ some b
structure Mid (ρ : Env) (cf : Cfg) (B : Nat) (w0 : World) (ls : Ls) (hp : SH) (tm : Tms) (ops : Array Oper) (n : Nat) (ds : List Deferred) (its : List It) (N : Nat) (listed : Array Bool) (a : Act) (w : World) : Prop where
 dfr : a.defers = ds
 sz : a.tmps.size = tm.n
 heap : HOk ρ B w0 ls hp w
 base : N ≤ w.heap.size
 old : ∀ d t, d < tm.n → tm.t.get d = some t → (∀ i, i < n → listed.getD i false = true → dstOf ops i ≠ some d) → RT ρ ls t (a.tmps.getD d undef)
 held : ∃ bl, Held ρ cf ls ops n its N listed a w bl
theorem Mid.done {ds : List Deferred} {n N : Nat} {its : List It} {listed : Array Bool} (h : Mid ρ cf B w0 ls hp tm all n ds its N listed a w) : ∀ i it d, i < n → listed.getD i false = true → its[i]? = some it → dstOf all i = some d → ∃ ob, ItV ρ cf ls N w ob (curIt its (fun j => listed.getD j false) i it) (a.tmps.getD d undef) := fun i it d h1 h2 h3 h4 => by
 obtain ⟨bl, hb, _⟩ := h.held
 exact ⟨bl i, hb i it d h1 h2 h3 h4⟩
def dstsB (m : Nat) : List (Option Tmp) → Bool
 | [] => true
 | none :: r => dstsB m r
 | some d :: r => Nat.blt d m && (r.all fun x => match x with | some e => !(Nat.beq d e) | none => true) && dstsB m r
theorem dstsB_ok {m : Nat} : ∀ {l : List (Option Tmp)}, dstsB m l = true → (∀ (i : Nat) (d : Tmp), l[i]? = some (some d) → d < m) ∧ ∀ (i j : Nat) (d : Tmp), i ≠ j → l[i]? = some (some d) → l[j]? ≠ some (some d)
 | [], _ => ⟨fun i d h => by simp at h, fun i j d _ h => by simp at h⟩
 | none :: r, h => by
  obtain ⟨h1, h2⟩ := dstsB_ok (l := r) h
  refine ⟨fun i d hi => ?_, fun i j d hij hi hj => ?_⟩
  ·cases i with
   | zero => simp at hi
   | succ i => exact h1 i d (by simpa using hi)
  ·cases i with
   | zero => simp at hi
   | succ i => cases j with
    | zero => simp at hj
    | succ j => exact h2 i j d (by omega) (by simpa using hi) (by simpa using hj)
 | some d0 :: r, h => by
  simp only [dstsB, Bool.and_eq_true] at h
  obtain ⟨⟨h0, hall⟩, h'⟩ := h
  obtain ⟨h1, h2⟩ := dstsB_ok (l := r) h'
  have hlt : d0 < m := Nat.le_of_ble_eq_true h0
  have hne : ∀ (j : Nat), r[j]? ≠ some (some d0) := fun j hj => by
   have := List.all_eq_true.1 hall _ (List.mem_of_getElem? hj)
   simp at this
  refine ⟨fun i d hi => ?_, fun i j d hij hi hj => ?_⟩
  ·cases i with
   | zero => simp at hi; subst hi; exact hlt
   | succ i => exact h1 i d (by simpa using hi)
  ·cases i with
   | zero =>
    simp at hi; subst hi
    cases j with
    | zero => exact hij rfl
    | succ j => exact hne j (by simpa using hj)
   | succ i => cases j with
    | zero => simp at hj; subst hj; exact hne i (by simpa using hi)
    | succ j => exact h2 i j d (by omega) (by simpa using hi) (by simpa using hj)
theorem getD_set_self {l : Array Bool} {i : Nat} (h : l.getD i true = false) : (l.setIfInBounds i true).getD i false = true := by
 rcases Nat.lt_or_ge i l.size with h' | h'
 ·simp [h']
 ·simp [Array.getElem?_eq_none h'] at h
theorem put_getD {d : Option Tmp} {u : Value} {e : Nat} : ((a.put d u).tmps.getD e undef = u ∧ d = some e ∧ e < a.tmps.size) ∨ ((a.put d u).tmps.getD e undef = a.tmps.getD e undef ∧ (d ≠ some e ∨ a.tmps.size ≤ e)) := by
 cases d with
 | none => exact .inr ⟨rfl, .inl (by simp)⟩
 | some d =>
  by_cases hd : d = e
  ·subst hd
   rcases Nat.lt_or_ge d a.tmps.size with h | h
   ·refine .inl ⟨?_, rfl, h⟩
    show (a.tmps.setIfInBounds d u).getD d undef = u
    rw [Array.getD_eq_getD_getElem?, Array.getElem?_setIfInBounds_self_of_lt h]; rfl
   ·refine .inr ⟨?_, .inr h⟩
    show (a.tmps.setIfInBounds d u).getD d undef = _
    rw [Array.getD_eq_getD_getElem?, Array.getElem?_eq_none (by simpa using h), Array.getD_eq_getD_getElem?, Array.getElem?_eq_none h]
  ·refine .inr ⟨?_, .inl (fun e' => hd (by cases e'; rfl))⟩
   show (a.tmps.setIfInBounds d u).getD e undef = _
   rw [Array.getD_eq_getD_getElem?, Array.getElem?_setIfInBounds_ne hd, ← Array.getD_eq_getD_getElem?]
theorem Mid.step {ds : List Deferred} {n N : Nat} {its : List It} {listed : Array Bool} {w' : World} {i : Nat} {it : It} {u : Value} {ob : Option Nat} (h : Mid ρ cf B w0 ls hp tm all n ds its N listed a w) (hin : i < n) (hun : listed.getD i true = false) (hit : its[i]? = some it)
 (hd : (∀ (i d : Nat), i < n → dstOf all i = some d → d < tm.n) ∧ ∀ (i j d : Nat), i < n → j < n → i ≠ j → dstOf all i = some d → dstOf all j ≠ some d)
 (hnp : ∀ t c, it ≠ .put t c) (hg : w.grownBy w' none) (hh : HOk ρ B w0 ls hp w') (hu : ItV ρ cf ls N w' ob (curIt its (fun j => (listed.setIfInBounds i true).getD j false) i it) u) (hf : it.fresh = true → ∀ b, ob = some b → w.heap.size ≤ b) :
 Mid ρ cf B w0 ls hp tm all n ds its N (listed.setIfInBounds i true) (a.put (dstOf all i) u) w' where
 dfr := by cases dstOf all i <;> exact h.dfr
 sz := by
  cases dstOf all i with
  | none => exact h.sz
  | some d => show (a.tmps.setIfInBounds d u).size = _; rw [Array.size_setIfInBounds]; exact h.sz
 heap := hh
 base := Nat.le_trans h.base hg.size
 old := fun d t hdn ht hno => by
  have hni : dstOf all i ≠ some d := hno i hin (getD_set_self hun)
  rcases put_getD (a := a) (d := dstOf all i) (u := u) (e := d) with ⟨_, h2, _⟩ | ⟨h1, _⟩
  ·exact (hni h2).elim
  ·rw [h1]
   exact h.old d t hdn ht fun j hj hl => hno j hj (getD_set_true hl)
 held := by
  obtain ⟨bl, hdone, hapart⟩ := h.held
  refine ⟨fun j => if j = i then ob else bl j, fun j it' d hj hl hit' hdj => ?_, fun j k x y d e b hj hk hjk lj lk hx hy fx fy dj dk hb => ?_⟩
  ·show ItV ρ cf ls N w' (if j = i then ob else bl j) _ _
   rcases put_getD (a := a) (d := dstOf all i) (u := u) (e := d) with ⟨h1, h2, _⟩ | ⟨h1, h2⟩
   ·by_cases hij : j = i
    ·subst hij
     rw [hit] at hit'; cases hit'
     rw [h1, if_pos rfl]; exact hu
    ·exact (hd.2 i j d hin hj (fun e => hij e.symm) h2 hdj).elim
   ·by_cases hij : j = i
    ·subst hij
     rcases h2 with h2 | h2
     ·exact (h2 hdj).elim
     ·have := hd.1 j d hin hdj
      rw [h.sz] at h2; omega
    ·rw [h1, if_neg hij]
     rw [getD_set_ne false (fun e => hij e.symm)] at hl
     rw [curIt_set hit hnp]
     exact (hdone j it' d hj hl hit' hdj).kept hg
  ·replace hb : (if j = i then ob else bl j) = some b := hb
   show (if k = i then ob else bl k) ≠ some b
   have old : ∀ {j : Nat} {x : It} {d : Tmp} {b : Nat}, j < n → j ≠ i → (listed.setIfInBounds i true).getD j false = true → its[j]? = some x → x.fresh = true → dstOf all j = some d → bl j = some b → b < w.heap.size := fun {j x d b} hj hji hl hx fx hdj hb => by
    rw [getD_set_ne false (Ne.symm hji)] at hl
    exact ((hdone j x d hj hl hx hdj).lt (curIt_fresh.trans fx) hb).2
   by_cases hji : j = i
   ·subst hji
    rw [hit] at hx; cases hx
    rw [if_pos rfl] at hb
    rw [if_neg (Ne.symm hjk)]
    intro hb'
    have := hf fx b hb
    have := old hk (Ne.symm hjk) lk hy fy dk hb'
    omega
   ·rw [if_neg hji] at hb
    by_cases hki : k = i
    ·subst hki
     rw [hit] at hy; cases hy
     rw [if_pos rfl]
     intro hb'
     have := hf fy b hb'
     have := old hj hji lj hx fx dj hb
     omega
    ·rw [if_neg hki]
     rw [getD_set_ne false (Ne.symm hji)] at lj
     rw [getD_set_ne false (Ne.symm hki)] at lk
     exact hapart j k x y d e b hj hk hjk lj lk hx hy fx fy dj dk hb
theorem HOk.off {w' : World} {b : Nat} (h : HOk ρ B w0 ls hp w) (hg : w.grownBy w' (some b)) (hB : B ≤ b) (hne : ∀ (i : Nat) (x : HE), hp[i]? = some x → ¬ RdBlk ρ ls i x b) : HOk ρ B w0 ls hp w' where
 below := h.below.grown hg h.size (fun k e => by cases e; exact hB)
 base := h.base
 len := h.len
 glob := h.glob.kept hg (fun k e => by cases e; exact hB)
 ent := fun i x hx => (h.ent i x hx).kept hg (fun k e => by cases e; exact hB) (fun b' hb e => by cases e; exact hne i x hx hb)
 inj := h.inj
theorem storeFresh {P : Program} {b : Nat} {ty : TypeId} : ∀ (us vs : List Value) (w : World) (i : Nat), w.heap[b]? = some (.cells vs.toArray ty (0, 0)) → i + us.length ≤ vs.length → (∀ u ∈ us, u.oneCell' = true) →
 ∃ w', (storeCells ⟨b, 0, none⟩ us i).run P w = .ok () w' ∧ w.grownBy w' (some b) ∧ w'.heap[b]? = some (.cells (setMany vs i us).toArray ty (0, 0))
 | [], vs, w, i, hh, _, _ => ⟨w, rfl, grownBy_of_below (Below.refl _ _) _, hh⟩
 | u :: us, vs, w, i, hh, hle, h1 => by
  simp only [List.length_cons] at hle
  have hcell : w.cell? ⟨b, i, none⟩ = some (vs[i]'(by omega)) := by
   rw [cell_of_row w b i _ _ _ hh]; simp
  have hst : (store ⟨b, i, none⟩ u).run P w = .ok () (w.setCell ⟨b, i, none⟩ u) := by
   rw [run_store P w _ u .plain (h1 u (by simp)), hcell, frozen_of_row w b i _ _ hh]; rfl
  have hh' : (w.setCell ⟨b, i, none⟩ u).heap[b]? = some (.cells (vs.set i u).toArray ty (0, 0)) := by
   rw [heap_setCell_same w b i _ _ u hh, List.setIfInBounds_toArray]
  obtain ⟨w', hrun, hg, hw⟩ := storeFresh us (vs.set i u) _ (i + 1) hh' (by simp; omega) (fun x hx => h1 x (by simp [hx]))
  refine ⟨w', ?_, (grownBy_setCell w b i u).trans hg, hw⟩
  simp only [storeCells, Sem.run_bind]
  rw [Addr.add_lit, Nat.zero_add, hst]
  exact hrun
theorem setMany_all {α : Type} : ∀ (us vs ws : List α), us.length = vs.length → setMany (ws ++ vs) ws.length us = ws ++ us
 | [], vs, ws, h => by cases vs with | nil => rfl | cons _ _ => simp at h
 | u :: us, vs, ws, h => by
  cases vs with
  | nil => simp at h
  | cons v vs =>
   have := setMany_all us vs (ws ++ [u]) (by simpa using h)
   simp only [setMany]
   rw [List.set_append_right _ _ (Nat.le_refl _), Nat.sub_self, List.set_cons_zero]
   simpa using this
theorem Mid.stepPut {P : Program} {ds : List Deferred} {n N : Nat} {its : List It} {listed : Array Bool} {i t d : Nat} {ty : TypeId} {cs cs' : List SC} {us : List Value} (h : Mid ρ cf B w0 ls hp tm all n ds its N listed a w) (hun : listed.getD i true = false)
 (hpo : PutsOk all n its) (hit : its[i]? = some (.put t cs')) (htn : t < n) (htl : listed.getD t false = true) (htt : its[t]? = some (.new none ty cs)) (hdt : dstOf all t = some d)
 (hBN : B ≤ N) (hlow : ∀ (i : Nat) (x : HE) (b : Nat), hp[i]? = some x → RdBlk ρ ls i x b → b < N) (hcs : All2 (RS ρ ls) cs' us) (h1 : ∀ u ∈ us, u.oneCell' = true) (hlen : cs'.length = cs.length) :
 ∃ b w', a.tmps.getD d undef = .pointer (some ⟨b, 0, none⟩) ∧ (storeCells ⟨b, 0, none⟩ us 0).run P w = .ok () w' ∧ Mid ρ cf B w0 ls hp tm all n ds its N (listed.setIfInBounds i true) a w' := by
 obtain ⟨bl, hdone, hapart⟩ := h.held
 obtain ⟨b, vs, e0, e1, e2, e3, e4⟩ := hdone t _ d htn htl htt hdt
 have hti : t ≠ i := fun e => by subst e; rw [getD_both hun] at htl; cases htl
 rw [curC_none fun j c hj => by
  rw [Nat.zero_add, hpo.uniq hj hit]
  cases hx : listed.getD i false
  ·rfl
  ·have := getD_both hun
   rw [hx] at this; cases this] at e4
 have hl : us.length = vs.length := by rw [← hcs.len, hlen, e4.len]
 obtain ⟨w', hrun, hg, hw⟩ := storeFresh (P := P) us vs w 0 e3 (by omega) h1
 rw [show setMany vs 0 us = us from setMany_all us vs [] hl] at hw
 refine ⟨b, w', e1, hrun, h.dfr, h.sz, h.heap.off hg (Nat.le_trans hBN e2) (fun j x hx hb => by have := hlow j x b hx hb; omega), Nat.le_trans h.base hg.size,
  fun e s he hs hno => h.old e s he hs fun j hj hl => hno j hj (getD_set_true hl), bl, fun j it' e hj hlj hij hdj => ?_, fun j k x y e f b' hj hk hjk lj lk hx hy fx fy dj dk hb => ?_⟩
 ·by_cases hji : j = i
  ·subst hji; rw [hit] at hij; cases hij; trivial
  ·rw [getD_set_ne false (Ne.symm hji)] at hlj
   by_cases hjt : j = t
   ·subst hjt
    rw [htt] at hij; cases hij
    rw [hdt] at hdj; cases hdj
    refine ⟨b, us, e0, e1, e2, hw, ?_⟩
    rw [curC_one hit (by rw [Nat.zero_add]; exact getD_set_self hun) fun j' c hj' => hpo.uniq hj' hit]
    exact hcs
   ·have hold := hdone j it' e hj hlj hij hdj
    have hcur : curIt its (fun k => (listed.setIfInBounds i true).getD k false) j it' = curIt its (fun k => listed.getD k false) j it' := by
     cases it' with
     | new a c c' =>
      simp only [curIt]
      rw [curC_congr (q := fun k => listed.getD k false) fun k c hk => ?_]
      simp only [Nat.zero_add]
      refine getD_set_ne false fun e => ?_
      subst e
      rw [hit] at hk; cases hk
      exact hjt rfl
     | val t => rfl
     | res a b => rfl
     | put a b => rfl
    rw [hcur]
    by_cases hf : it'.fresh = true
    ·refine hold.keptR hg (fun b' e => by cases e; exact e2) fun b' hb e => ?_
     cases e
     exact hapart j t it' _ e d b hj htn hjt hlj htl hij htt hf rfl hdj hdt hb e0
    ·cases it' with
     | val t => exact hold
     | put _ _ => trivial
     | new _ _ _ => exact (hf rfl).elim
     | res _ _ => exact (hf rfl).elim
 ·have ne : ∀ {m : Nat} {z : It}, its[m]? = some z → z.fresh = true → m ≠ i := fun {m z} hm hz e => by subst e; rw [hit] at hm; cases hm; cases hz
  rw [getD_set_ne false (Ne.symm (ne hx fx))] at lj
  rw [getD_set_ne false (Ne.symm (ne hy fy))] at lk
  exact hapart j k x y e f b' hj hk hjk lj lk hx hy fx fy dj dk hb
end
end Vc
end Go.Proofs.YtelbilnnmmbmdaaDoor
namespace Go.Proofs.YtelbilnnmmbmdaaDoor
namespace Vc
open Go Go.RowKit
set_option linter.unusedVariables false
def finL (cf : Cfg) (all : Array Oper) (its : List It) : List It → Nat → Tms → SH → Tms × SH
 | [], _, tm, hp => (tm, hp)
 | .val t :: r, k, tm, hp => finL cf all its r (k + 1) (putT tm (dstOf all k) t) hp
 | .new sl ty cs :: r, k, tm, hp => finL cf all its r (k + 1) (putT tm (dstOf all k) ⟨.bc true, .c (newS sl hp.length)⟩) (hp ++ [⟨true, ty, .cells (curC its 0 (fun _ => true) k cs)⟩])
 | .res c es :: r, k, tm, hp => finL cf all its r (k + 1) (putT tm (dstOf all k) ⟨.bc true, (rOut cf c es hp.length).1⟩) (hp ++ (rOut cf c es hp.length).2)
 | .put _ _ :: r, k, tm, hp => finL cf all its r (k + 1) tm hp
def madeB (d : Tmp) (o : Oper) : Bool := match o.op, o.dst with
 | .alloc _, some e => Nat.beq e d
 | _, _ => false
def isStop (prev : List Oper) (o : Oper) : Bool := match o.op with
 | .store _ (.tmp d) _ => !(prev.any (madeB d))
 | .store .. => true
 | .call { callee := .builtin .append, .. } => true
 | .call { callee := .builtin .copy, .. } => true
 | _ => false
def readsT (d : Tmp) (o : Oper) : Bool := o.op.operands.toList.any fun x => match x with | .tmp t => Nat.beq t d | _ => false
def lateA (prev : List Oper) (o : Oper) : Bool := match o.op, o.dst with
 | .assign _, some d => prev.any (readsT d)
 | _, _ => false
def headN : List Oper → List Oper → Nat
 | _, [] => 0
 | prev, o :: r => if isStop prev o || lateA prev o then 0 else headN (o :: prev) r + 1
section
variable {P : Program} {ρ : Env} {B : Nat} {w0 w : World} {ls : Ls} {hp : SH} {tm : Tms} {a : Act} {G : E} {cf : Cfg} {sm : Sm} {neg : List E} {all : Array Oper}
theorem RTm.know (hr : RTm ρ ls tm a) {d : Option Tmp} {t : Tm} (h : ∀ e, d = some e → RT ρ ls t (a.tmps.getD e undef)) : RTm ρ ls (putT tm d t) a := by
 refine ⟨by rw [putT_len]; exact hr.1, fun e t' he ht => ?_⟩
 rw [putT_len] at he
 rcases putT_get ht with ⟨h1, h2⟩ | ⟨_, h2⟩
 ·rw [h2]; exact h e h1
 ·exact hr.2 e t' he h2
theorem newS_ok {sl : Option Nat} {l b : Nat} {ls : Ls} (h : ls[l]? = some (.pointer (some ⟨b, 0, none⟩))) : RV ρ ls (.c (newS sl l)) (newV sl b) := by
 cases sl with
 | none => exact ⟨⟨b, 0, none⟩, h, by simp [newV, Addr.add]⟩
 | some n => exact ⟨Nat.le_refl _, ⟨b, 0, none⟩, h, by simp [newV, Addr.add]⟩
theorem finL_ok {N : Nat} {bl : Nat → Option Nat} {its : List It} (hBN : B ≤ N) : ∀ (r : List It) (k : Nat) (tm' : Tms) (hp' : SH) (ls' : Ls) (used : List Nat),
 RTm ρ ls' tm' a → HOk ρ B w0 ls' hp' w → Ext ls ls' → (∀ (i : Nat) (x : HE) (b : Nat), hp'[i]? = some x → RdBlk ρ ls' i x b → b < N ∨ b ∈ used) →
 (∀ j it d, r[j]? = some it → dstOf all (k + j) = some d → ItV ρ cf ls N w (bl (k + j)) (curIt its (fun _ => true) (k + j) it) (a.tmps.getD d undef)) →
 (∀ j it, r[j]? = some it → it.fresh = true → ∃ d, dstOf all (k + j) = some d) →
 (∀ j x b, r[j]? = some x → x.fresh = true → bl (k + j) = some b → b ∉ used) →
 (∀ i j x y b, i ≠ j → r[i]? = some x → r[j]? = some y → x.fresh = true → y.fresh = true → bl (k + i) = some b → bl (k + j) ≠ some b) →
 ∃ ls'', Ext ls' ls'' ∧ RTm ρ ls'' (finL cf all its r k tm' hp').1 a ∧ HOk ρ B w0 ls'' (finL cf all its r k tm' hp').2 w
 | [], k, tm', hp', ls', used, hr, hh, _, _, _, _, _, _ => ⟨ls', Ext.refl _, hr, hh⟩
 | it0 :: r, k, tm', hp', ls', used, hr, hh, he, hl, hv, hf, hu, ha => by
  have sh : ∀ j, k + 1 + j = k + (j + 1) := fun j => by omega
  have tv : ∀ j it d, r[j]? = some it → dstOf all (k + 1 + j) = some d → ItV ρ cf ls N w (bl (k + 1 + j)) (curIt its (fun _ => true) (k + 1 + j) it) (a.tmps.getD d undef) := fun j it d h1 h2 => by
   rw [sh] at h2 ⊢; exact hv (j + 1) it d (by simpa using h1) h2
  have tf : ∀ j it, r[j]? = some it → it.fresh = true → ∃ d, dstOf all (k + 1 + j) = some d := fun j it h1 h2 => by rw [sh]; exact hf (j + 1) it (by simpa using h1) h2
  have ta : ∀ i j x y b, i ≠ j → r[i]? = some x → r[j]? = some y → x.fresh = true → y.fresh = true → bl (k + 1 + i) = some b → bl (k + 1 + j) ≠ some b := fun i j x y b hij hx hy fx fy hb => by
   rw [sh] at hb ⊢; exact ha (i + 1) (j + 1) x y b (by omega) (by simpa using hx) (by simpa using hy) fx fy hb
  have tu : ∀ (used' : List Nat), (∀ b, b ∈ used' → b ∈ used ∨ (it0.fresh = true ∧ bl k = some b)) → ∀ j x b, r[j]? = some x → x.fresh = true → bl (k + 1 + j) = some b → b ∉ used' := fun used' hus j x b h5 h6 h7 hm => by
   rw [sh] at h7
   rcases hus b hm with hm | ⟨hm1, hm2⟩
   ·exact hu (j + 1) x b (by simpa using h5) h6 h7 hm
   ·exact ha 0 (j + 1) it0 x b (by omega) (by simp) (by simpa using h5) hm1 h6 hm2 h7
  cases it0 with
  | val t =>
   simp only [finL]
   refine finL_ok hBN r (k + 1) _ hp' ls' used (hr.know fun d hd => ?_) hh he hl tv tf (tu used fun b hb => .inl hb) ta
   have := hv 0 (.val t) d (by simp) (by simpa using hd)
   exact RT.ext he this
  | new sl ty cs =>
   obtain ⟨d0, hd0⟩ := hf 0 (.new sl ty cs) (by simp) rfl
   obtain ⟨b, vs, h0, h1, h2, h3, h4⟩ := hv 0 (.new sl ty cs) d0 (by simp) hd0
   rw [Nat.add_zero] at h4
   have hnu := hu 0 (.new sl ty cs) b (by simp) rfl h0
   have hh' : HOk ρ B w0 (ls' ++ [.pointer (some ⟨b, 0, none⟩)]) (hp' ++ [⟨true, ty, .cells (curC its 0 (fun _ => true) k cs)⟩]) w := hh.adopt (Nat.le_trans hBN h2) h3 (h4.mono fun _ _ => RS.ext he) (fun i x hx hb => by
    rcases hl i x b hx hb with h5 | h5
    ·omega
    ·exact hnu h5)
   simp only [finL]
   have hd0' : dstOf all k = some d0 := hd0
   obtain ⟨ls'', g1, g2, g3⟩ := finL_ok hBN r (k + 1) (putT tm' (dstOf all k) ⟨.bc true, .c (newS sl hp'.length)⟩) (hp' ++ [⟨true, ty, .cells (curC its 0 (fun _ => true) k cs)⟩]) (ls' ++ [.pointer (some ⟨b, 0, none⟩)]) (b :: used)
    ((hr.ext (Ext.snoc ls' _)).know fun d hd => by
      rw [hd0'] at hd; cases hd
      rw [h1]
      exact RT_true (newS_ok (by rw [← hh.len]; simp))) hh' (he.trans (Ext.snoc ls' _))
    (fun i x b' hx hb => by
      rw [List.getElem?_append] at hx
      split at hx
      ·rename_i hi
       rcases hl i x b' hx (hb.at (List.getElem?_append_left (by rw [hh.len]; exact hi)).symm) with h5 | h5
       ·exact .inl h5
       ·exact .inr (List.mem_cons_of_mem _ h5)
      ·rename_i hi
       have : i = ls'.length := by
        have := (List.getElem?_eq_some_iff.1 hx).1
        simp at this
        rw [hh.len]; omega
       subst this
       have hb := hb.1
       rw [List.getElem?_append_right (Nat.le_refl _), Nat.sub_self] at hb
       have hb := hb.ptr
       exact .inr (by rw [← hb]; simp)) tv tf (tu (b :: used) fun b' hb' => by
        rcases List.mem_cons.1 hb' with rfl | hb'
        ·exact .inr ⟨rfl, h0⟩
        ·exact .inl hb') ta
   exact ⟨ls'', (Ext.snoc ls' _).trans g1, g2, g3⟩
  | put _ _ =>
   simp only [finL]
   exact finL_ok hBN r (k + 1) _ hp' ls' used hr hh he hl tv tf (tu used fun b hb => .inl hb) ta
  | res c es =>
   obtain ⟨d0, hd0⟩ := hf 0 (.res c es) (by simp) rfl
   obtain ⟨x, h0, hres⟩ := hv 0 (.res c es) d0 (by simp) hd0
   have hnu := fun b => hu 0 (.res c es) b (by simp) rfl
   simp only [Nat.add_zero] at h0 hnu
   have hd0' : dstOf all k = some d0 := hd0
   simp only [finL]
   cases hro : (rOut cf c es hp'.length).2 with
   | nil =>
    rw [List.append_nil]
    exact finL_ok hBN r (k + 1) _ hp' ls' used (hr.know fun d hd => by
     rw [hd0'] at hd; cases hd
     exact RT_true (hres.val ls' hp'.length fun e => (e hro).elim)) hh he hl tv tf (tu used fun b hb => .inl hb) ta
   | cons en rest =>
    have hr0 : rest = [] := by
     have := hres.len hp'.length
     rw [hro] at this
     exact List.eq_nil_of_length_eq_zero (by simpa using this)
    subst hr0
    obtain ⟨l1, l2⟩ := hres.ent hp'.length en (by rw [hro]; simp)
    have hh' : HOk ρ B w0 (ls' ++ [x]) (hp' ++ [en]) w := hh.join (l2 _ _ _ hBN (by simp))
     (fun _ b hb i y hy hy' => by
       have hb := hb.of hres.na
       rcases hl i y b hy hy' with h5 | h5
       ·have := (hres.blk b hb).1; omega
       ·exact hnu b (by rw [h0]; exact hb) h5)
     (fun b hb i y hy ly hbl => by
       have hb := hb.1
       rw [show (ls' ++ [x])[ls'.length]? = some x by simp] at hb
       have hb := hb.of hres.na
       rcases hl i y b hy (RdBlk.of_live ly hbl) with h5 | h5
       ·have := (hres.blk b hb).1; omega
       ·exact hnu b (by rw [h0]; exact hb) h5)
    obtain ⟨ls'', g1, g2, g3⟩ := finL_ok hBN r (k + 1) (putT tm' (dstOf all k) ⟨.bc true, (rOut cf c es hp'.length).1⟩) (hp' ++ [en]) (ls' ++ [x]) ((blkOf (some x)).toList ++ used)
     ((hr.ext (Ext.snoc ls' _)).know fun d hd => by
       rw [hd0'] at hd; cases hd
       exact RT_true (hres.val _ hp'.length fun _ => by rw [← hh.len]; simp)) hh' (he.trans (Ext.snoc ls' _))
     (fun i y b' hx hb => by
       rw [List.getElem?_append] at hx
       split at hx
       ·rename_i hi
        rcases hl i y b' hx (hb.at (List.getElem?_append_left (by rw [hh.len]; exact hi)).symm) with h5 | h5
        ·exact .inl h5
        ·exact .inr (List.mem_append_right _ h5)
       ·rename_i hi
        have : i = ls'.length := by
         have := (List.getElem?_eq_some_iff.1 hx).1
         simp at this
         rw [hh.len]; omega
        subst this
        have hb := hb.1
        rw [show (ls' ++ [x])[ls'.length]? = some x by simp] at hb
        have hb := hb.of hres.na
        exact .inr (by rw [hb]; simp)) tv tf (tu _ fun b' hb' => by
         rcases List.mem_append.1 hb' with hb' | hb'
         ·exact .inr ⟨rfl, by rw [h0]; simpa using hb'⟩
         ·exact .inl hb') ta
    exact ⟨ls'', (Ext.snoc ls' _).trans g1, g2, g3⟩
theorem findNew_ok {its : List It} {d : Tmp} : ∀ {l : List Edge} {i m : Nat}, findNew all its d l = some (i, m) → ∃ ty cs, (∃ e ∈ l, Region.binds .any e = true ∧ e.on = i) ∧ its[i]? = some (.new none ty cs) ∧ dstOf all i = some d ∧ m = cs.length
 | [], _, _, h => by cases h
 | e :: r, i, m, h => by
  have more : findNew all its d r = some (i, m) → ∃ ty cs, (∃ e' ∈ e :: r, Region.binds .any e' = true ∧ e'.on = i) ∧ its[i]? = some (.new none ty cs) ∧ dstOf all i = some d ∧ m = cs.length := fun h => by
   obtain ⟨ty, cs, ⟨e', h1, h2⟩, h3⟩ := findNew_ok h
   exact ⟨ty, cs, ⟨e', List.mem_cons_of_mem _ h1, h2⟩, h3⟩
  simp only [findNew] at h
  split at h
  ·rename_i hb
   split at h
   ·rename_i ty cs d' h1 h2
    split at h
    ·rename_i hd
     cases h
     have := Nat.eq_of_beq_eq_true hd
     subst this
     exact ⟨ty, cs, ⟨e, by simp, hb, rfl⟩, h1, h2, rfl⟩
    ·exact more h
   ·exact more h
  ·exact more h
theorem putOf_ok {its : List It} {tm : Tms} {o : Oper} {i : Nat} {cs : List SC} (h : putOf P all its tm o = some (i, cs)) : o.dst = none ∧ ∃ e ∈ o.after, Region.binds .any e = true ∧ e.on = i := by
 unfold putOf at h
 split at h
 ·rename_i t d x _ hd
  split at h
  ·rename_i j m v sz hfn _ _
   split at h
   ·split at h
    ·cases h
     obtain ⟨_, _, ⟨e, he, h1⟩, _⟩ := findNew_ok hfn
     exact ⟨hd, e, by simpa using he, h1⟩
    ·cases h
   ·cases h
  ·cases h
 ·cases h
theorem mid_step {ds : List Deferred} {n N : Nat} {its : List It} {ows : List (E × Ow)} (hsm : SmOk P ρ sm) (hc : CfgOk P ρ cf) (hneg : ∀ e ∈ neg, evB ρ e = false)
 (hd : (∀ (i d : Nat), i < n → dstOf all i = some d → d < tm.n) ∧ ∀ (i j d : Nat), i < n → j < n → i ≠ j → dstOf all i = some d → dstOf all j ≠ some d)
 (hows : ∀ x ∈ ows, evB ρ x.1 = true → x.2.Ok ρ) (hpo : PutsOk all n its) (hBN : B ≤ N) (hlow : ∀ (i : Nat) (x : HE) (b : Nat), hp[i]? = some x → RdBlk ρ ls i x b → b < N)
 {listed : Array Bool} {a : Act} {w : World} {i : Nat} {o : Oper} (hits : ItOk P cf sm hp neg all (maskT all n tm) its ows i o) (inv : HeadInv .any all n listed) (h : Mid ρ cf B w0 ls hp tm all n ds its N listed a w) (hin : i < n) (hrd : i ∈ Region.ready .any all listed) (ho : all[i]? = some o) :
 (Region.wanted o (yielded all a.tmps) = true ∧ upR P (fun v w' => Mid ρ cf B w0 ls hp tm all n ds its N (listed.setIfInBounds i true) (a.put o.dst v) w') ((execOp a.eval o).run P w)) ∨
 (Region.wanted o (yielded all a.tmps) = false ∧ Mid ρ cf B w0 ls hp tm all n ds its N (listed.setIfInBounds i true) (a.put o.dst undef) w) := by
 obtain ⟨hun, o', ho', hdep⟩ := mem_ready.1 hrd
 have : o' = o := Option.some.inj (ho'.symm.trans ho)
 subst this
 have hdo : dstOf all i = o'.dst := by unfold dstOf; rw [ho]; rfl
 obtain ⟨pre, hpre, hcase⟩ := hits
 have hr : RTm ρ ls (seeT all pre o'.after.toList (maskT all n tm)) a := by
  refine ⟨by rw [seeT_n, maskT_n]; exact h.sz.symm, fun d t hdn ht => ?_⟩
  rw [seeT_n, maskT_n] at hdn
  rcases seeT_get ht with ⟨e, he, hb, it, hit, hde, rfl⟩ | ht
  ·have hl := hdep e (by simpa using he) hb
   have hlt : e.on < n := by
    rcases Nat.lt_or_ge e.on n with h1 | h1
    ·exact h1
    ·rcases Nat.lt_or_ge e.on all.size with h2 | h2
     ·have h3 := inv.tail e.on h1 h2
      rw [getD_both h3] at hl; cases hl
     ·rw [Array.getD_eq_getD_getElem?, Array.getElem?_eq_none (by rw [inv.size]; exact h2)] at hl; cases hl
   obtain ⟨ob, this⟩ := h.done e.on it d hlt hl (hpre _ _ hit) hde
   cases it with
   | val t => exact this
   | new sl ty cs => exact RT_unk _
   | res c es => exact RT_unk _
   | put _ _ => exact RT_unk _
  ·rcases maskT_get ht with rfl | ⟨h1, h2⟩
   ·exact RT_unk _
   ·exact h.old d t hdn h2 fun j hj _ => h1 j hj
 have put : ∀ {it : It} {u : Value} {w' : World} {ob : Option Nat}, its[i]? = some it → (∀ t c, it ≠ .put t c) → w.grownBy w' none → HOk ρ B w0 ls hp w' → ItV ρ cf ls N w' ob it u → (it.fresh = true → ∀ b, ob = some b → w.heap.size ≤ b) →
  Mid ρ cf B w0 ls hp tm all n ds its N (listed.setIfInBounds i true) (a.put o'.dst u) w' := fun {it u w' ob} h1 h0 h2 h3 h4 h5 => by
  rw [← hdo]; refine h.step hin hun h1 hd h0 h2 h3 ?_ h5
  rw [curIt_set h1 h0]
  cases it with
  | new sl ty cs =>
   obtain ⟨b, vs, e0, e1, e2, e3, e4⟩ := h4
   refine ⟨b, vs, e0, e1, e2, e3, ?_⟩
   rw [curC_none fun j c hj => ?_]
   ·exact e4
   ·rw [Nat.zero_add]
    obtain ⟨oj, hoj, _, e, he, hb, hon⟩ := hpo.dep hj
    cases hx : listed.getD j false
    ·rfl
    ·have := inv.closed j oj hoj hx e he hb
     rw [hon, getD_both hun] at this; cases this
  | val t => exact h4
  | res c es => exact h4
  | put _ _ => exact (h0 _ _ rfl).elim
 have g0 : w.grownBy w none := grownBy_of_below (Below.refl _ _) none
 rcases hcase with ⟨hg, hit⟩ | ⟨G, v, ow, hg, hv, hit, how⟩ | ⟨G, it, ow, hg, hT, hdst, hnew, hit, how⟩ | ⟨G, t, cs', hg, hT, hput, hit⟩
 ·exact .inr ⟨guardOf_ok hg hr hneg, put (ob := none) hit (fun _ _ e => by cases e) g0 h.heap RT_und (fun e => by cases e)⟩
 ·have hwd := guardOf_ok hg hr hneg
  cases hG : evB ρ G
  ·refine .inr ⟨hwd.trans hG, put (ob := none) hit (fun _ _ e => by cases e) g0 h.heap ⟨(fun e => by rw [show evB ρ G = true from e] at hG; cases hG), fun _ => rfl⟩ (fun e => by cases e)⟩
  ·have hok : ow.Ok ρ := by
    rcases how with h1 | h1
    ·exact Ow.none_ok h1
    ·exact hows _ h1 hG
   have hs := opQ2_okB (P := P) (a := a) (w := w) hsm hv hc.q hok hr hG h.heap
   refine .inl ⟨hwd.trans hG, ?_⟩
   generalize (execOp a.eval o').run P w = r at *
   cases r with
   | ok nx w' =>
    cases nx <;> simp only [setUpon] at hs <;> simp only [upR]
    case value u => obtain ⟨rfl, h2⟩ := hs; exact put (ob := none) hit (fun _ _ e => by cases e) g0 h.heap ⟨fun _ => nz_ok hneg h2, (fun e => by rw [show evB ρ G = false from e] at hG; cases hG)⟩ (fun e => by cases e)
    case skip => obtain ⟨rfl, h2⟩ := hs; exact put (ob := none) hit (fun _ _ e => by cases e) g0 h.heap ⟨fun _ => nz_ok hneg h2, fun _ => rfl⟩ (fun e => by cases e)
    case enter f args =>
     obtain ⟨rfl, hcl⟩ := hs
     exact hcl.mono fun e w'' ⟨u, he, hu, hb⟩ => ⟨u, he, put (ob := none) hit (fun _ _ e => by cases e) (grownBy_of_below hb none) (h.heap.calls hb) ⟨fun _ => nz_ok hneg hu, (fun e => by rw [show evB ρ G = false from e] at hG; cases hG)⟩ (fun e => by cases e)⟩
   | halt x w' => exact hs.elim
 ·have hwd := guardOf_ok hg hr hneg
  have hG : evB ρ G = true := isT_ok hT
  refine .inl ⟨hwd.trans hG, ?_⟩
  have halloc : ∀ {sl : Option Nat} {ty : TypeId} {cs : List SC} {vs : List Value}, it = .new sl ty cs → All2 (RS ρ ls) cs vs → (execOp a.eval o').run P w = .ok (.value (newV sl w.heap.size)) (w.alloc (.cells vs.toArray ty)) →
   upR P (fun v w' => Mid ρ cf B w0 ls hp tm all n ds its N (listed.setIfInBounds i true) (a.put o'.dst v) w') ((execOp a.eval o').run P w) := fun {sl ty cs vs} hite hrs hrun => by
   rw [hrun]
   have hgr : w.grownBy (w.alloc (.cells vs.toArray ty)) none := World.grownBy_alloc w _ none
   subst hite
   exact put hit (fun _ _ e => by cases e) hgr (h.heap.calls ⟨hgr.os, hgr.tape, hgr.output, hgr.size, fun k hk => hgr.block k hk (by simp)⟩) ⟨w.heap.size, vs, rfl, rfl, h.base, heap_alloc_new w _, hrs⟩ (fun _ b hb => by cases hb; exact Nat.le_refl _)
  unfold isNew at hnew
  obtain ⟨dst, op, ty, pos, after, guard⟩ := o'
  split at hnew
  ·rename_i t hop
   split at hnew
   ·rename_i l hl
    cases hnew
    obtain ⟨z, vs, z1, z2, z3⟩ := zeroCells_ok hl ρ ls
    refine halloc rfl z3 ?_
    simp only at hop
    subst hop
    simp only [execOp, Instr.alloc, Sem.run_bind, z1, Result.andThen_ok, newVar_run z2, Sem.run_pure]
    rfl
   ·cases hnew
  ·rename_i t x hop
   split at hnew
   ·rename_i v hx
    split at hnew
    ·rename_i l hl
     cases hnew
     obtain ⟨vs, z2, z3, _⟩ := svCells_ok hl (opd_ok hx hr (G := .bc true) rfl)
     refine halloc rfl z3 ?_
     simp only at hop
     subst hop
     simp only [execOp, Instr.box, Sem.run_bind, Result.andThen_ok, newVar_run z2, Sem.run_pure]
     rfl
    ·cases hnew
   ·cases hnew
  ·rename_i t len ps hop
   split at hnew
   ·split at hnew
    ·rename_i qs hq
     split at hnew
     ·rename_i el cs hs
      cases hnew
      obtain ⟨vs, hrun, hv⟩ := sbuildSlice_ok (P := P) (w := w) hs (partsOf_ok hr (G := .bc true) rfl hq)
      refine halloc rfl hv ?_
      simp only at hop
      subst hop
      have e : (ps.map fun (x : Nat × Operand) => (x.1, a.eval x.2)) = (ps.toList.map fun x => (x.1, a.eval x.2)).toArray := by
       rw [← Array.toList_map]
      simp only [execOp]
      rw [show (ps.map fun (x : Nat × Operand) => (x.1, a.eval x.2)) = (ps.toList.map fun x => (x.1, a.eval x.2)).toArray from e]
      simp only [Sem.run_bind, hrun, Result.andThen_ok, Sem.run_pure]
      rfl
     ·cases hnew
    ·cases hnew
   ·cases hnew
  ·rename_i f args aty hop
   simp only at hop
   split at hnew
   ·rename_i f' hf
    obtain ⟨fs, cs, he, q1, q2⟩ := opd_ok hf hr (G := .bc true) rfl
    have hfs : fs = [] := by cases fs with | nil => rfl | cons _ _ => exact q1.elim
    have hcs : cs = [] := by cases cs with | nil => rfl | cons _ _ => exact q2.elim
    subst hfs hcs
    split at hnew
    ·rename_i vs hvs
     split at hnew
     ·rename_i c es obs hfc
      obtain ⟨m1, m2, hargs⟩ := findRC_ok hfc
      have m1 := rcFor_mem m1
      split at hnew
      ·rename_i hle
       cases hnew
       have hok : Ow.Ok ρ ⟨obs, preOf cf c.pre es⟩ := by
        rcases how with h1 | h1
        ·exact Ow.none_ok h1
        ·exact hows _ h1 hG
       obtain ⟨k1, fn, k2, k3, k4⟩ := hc.rctr c m1
       have hcall := k1 (dsOf ρ es) _ w (h.heap.glob.up h.heap.size) (rArgs_ok h.heap hargs hok.1 (opds_ok hr (G := .bc true) rfl hvs)) (preOf_ok hc.pb hok.2)
       have e : args.map a.eval = (args.toList.map a.eval).toArray := by rw [← Array.toList_map]
       subst hop
       have hrun : (execOp a.eval { dst := dst, op := .call { callee := .value f, args := args, argTypes := aty }, type := ty, pos := pos, after := after, guard := guard }).run P w = .ok (.enter c.f (args.toList.map a.eval).toArray) w := by
        simp only [execOp, resolve, he, Deferred.ofValue, Sem.run_bind, Sem.run_pure, Result.andThen_ok, invoke, e]
        rw [← m2, run_callFunc k2 k3 k4]
        simp
       rw [hrun]
       exact hcall.mono fun e' w' ⟨v, g1, g2, g3⟩ => by
        obtain ⟨u, hu⟩ := rOut_ok (cf := cf) hc.F g2 (Nat.le_of_ble_eq_true hle)
        have hu' : Res ρ cf c es N w' u v := ⟨hu.na, fun b hb => ⟨Nat.le_trans h.base (hu.blk b hb).1, (hu.blk b hb).2⟩, hu.val, hu.len, fun l x hx => ⟨(hu.ent l x hx).1, fun ls' i B hB hi => (hu.ent l x hx).2 ls' i B (Nat.le_trans hB h.base) hi⟩⟩
        exact ⟨v, g1, put (ob := blkOf (some u)) hit (fun _ _ e => by cases e) (grownBy_of_below g3 none) (h.heap.calls g3) ⟨u, rfl, hu'⟩ (fun _ b hb => (hu.blk b hb).1)⟩
      ·cases hnew
     ·cases hnew
    ·cases hnew
   ·cases hnew
  ·cases hnew
 ·have hwd := guardOf_ok hg hr hneg
  have hG : evB ρ G = true := isT_ok hT
  refine .inl ⟨hwd.trans hG, ?_⟩
  unfold putOf at hput
  obtain ⟨dst, op, ty, pos, after, guard⟩ := o'
  split at hput
  ·rename_i tt d x hop hdst
   simp only at hop hdst
   subst hop hdst
   split at hput
   ·rename_i ti m v sz hfn hx hsz
    split at hput
    ·rename_i cs hcs
     split at hput
     ·rename_i hif
      simp only [Bool.and_eq_true] at hif
      obtain ⟨c1, c2⟩ := hif
      have c1 := Nat.eq_of_beq_eq_true c1
      have c2 := Nat.eq_of_beq_eq_true c2
      cases hput
      obtain ⟨ty0, cs0, ⟨e, he, hb, hon⟩, f1, f2, f3⟩ := findNew_ok hfn
      subst hon
      have hl := hdep e (by simpa using he) hb
      have hlt : e.on < n := by
       rcases Nat.lt_or_ge e.on n with h1 | h1
       ·exact h1
       ·rcases Nat.lt_or_ge e.on all.size with h2 | h2
        ·have h3 := inv.tail e.on h1 h2
         rw [getD_both h3] at hl; cases hl
        ·rw [Array.getD_eq_getD_getElem?, Array.getElem?_eq_none (by rw [inv.size]; exact h2)] at hl; cases hl
      obtain ⟨us, z1, z2, z3⟩ := svCells_ok hcs (opd_ok hx hr (G := .bc true) rfl)
      obtain ⟨b, w', g1, g2, g3⟩ := h.stepPut (P := P) hun hpo hit hlt hl (hpre _ _ f1) f2 hBN hlow z2 z3 (by omega)
      have hul : us.length = sz := by rw [← z2.len]; omega
      have hst : (storeVar tt ⟨b, 0, none⟩ (a.eval x)).run P w = .ok () w' := by simp [storeVar, run_sizeOf hsz, z1, hul, g2]
      simp only [execOp, Instr.storeAt, Instr.sureAddr, eval_tmp, g1, Sem.run_bind, Sem.run_pure, hst, Result.andThen_ok]
      exact g3
     ·cases hput
    ·cases hput
   ·cases hput
  ·cases hput
end
def knownT (all : Array Oper) (tm : Tms) (j : Nat) : Tm := match dstOf all j with
 | some d => (match tm.t.get d with | some t => if Nat.blt d tm.n then t else unkT | none => unkT)
 | none => unkT
def knownL (all : Array Oper) (tm : Tms) (k : Nat) : List It := (List.range k).map fun j => .val (knownT all tm j)
def regK (P : Program) (cf : Cfg) (sm : Sm) (hp : SH) (neg : List E) (ops : Array Oper) (tm : Tms) (k n : Nat) : QR := regL P cf sm hp neg ops (maskT ops n tm) ((ops.toList.take n).drop k) (knownL ops tm k) []
def chkK (ops : Array Oper) (tm : Tms) (k n : Nat) (q : QR) : Bool := Nat.beq q.its.length n && Nat.ble k n && Nat.ble n ops.size && downB .any ops && bndB .any ops n && dstsB tm.n ((ops.toList.take n).map (·.dst)) && putsB q.its
def tryK (P : Program) (cf : Cfg) (sm : Sm) (hp : SH) (neg : List E) (ops : Array Oper) (tm : Tms) (k : Nat) : Nat → Option (Nat × QR)
 | 0 => none
 | d + 1 => if bndB .any ops (k + (d + 1)) then (match regK P cf sm hp neg ops tm k (k + (d + 1)) with
  | q => if chkK ops tm k (k + (d + 1)) q then some (k + (d + 1), q) else tryK P cf sm hp neg ops tm k d) else tryK P cf sm hp neg ops tm k d
def pieceAt (P : Program) (cf : Cfg) (sm : Sm) (hp : SH) (neg : List E) (ops : Array Oper) (tm : Tms) (k : Nat) : Option (Nat × QR) :=
 tryK P cf sm hp neg ops tm k ((regK P cf sm hp neg ops tm k (headN [] (ops.toList.drop k) + k)).its.length - k)
section
variable {P : Program} {ρ : Env} {B : Nat} {w0 w : World} {ls : Ls} {hp : SH} {tm : Tms} {a : Act} {G : E} {cf : Cfg} {sm : Sm} {neg : List E} {all : Array Oper}
theorem tryK_ok {k n : Nat} {q : QR} : ∀ {d : Nat}, tryK P cf sm hp neg all tm k d = some (n, q) → q = regK P cf sm hp neg all tm k n ∧ chkK all tm k n q = true
 | 0, h => by cases h
 | d + 1, h => by
  simp only [tryK] at h
  split at h
  ·split at h
   ·rename_i hc; cases h; exact ⟨rfl, hc⟩
   ·exact tryK_ok h
  ·exact tryK_ok h
theorem knownL_len (k : Nat) : (knownL all tm k).length = k := by simp [knownL]
theorem knownL_get {k j : Nat} (hj : j < k) : (knownL all tm k)[j]? = some (.val (knownT all tm j)) := by
 unfold knownL
 rw [List.getElem?_map, List.getElem?_range hj]; rfl
theorem knownT_ok (hr : RTm ρ ls tm a) {j d : Nat} (hd : dstOf all j = some d) : RT ρ ls (knownT all tm j) (a.tmps.getD d undef) := by
 unfold knownT
 rw [hd]
 simp only
 split
 ·rename_i t ht
  split
  ·rename_i hdn
   exact hr.2 d t (Nat.le_of_ble_eq_true hdn) ht
  ·exact RT_unk _
 ·exact RT_unk _
theorem isNew_notPut {tm : Tms} {o : Oper} {i : Nat} {c : List SC} {ow : Ow} (h : isNew P cf tm hp o = some (.put i c, ow)) : False := by
 unfold isNew at h
 split at h
 ·split at h <;> cases h
 ·split at h
  ·split at h <;> cases h
  ·cases h
 ·split at h
  ·split at h
   ·split at h <;> cases h
   ·cases h
  ·cases h
 ·split at h
  ·split at h
   ·split at h
    ·split at h <;> cases h
    ·cases h
   ·cases h
  ·cases h
 ·cases h
theorem piece_ok {r : Option Nat} {ds : List Deferred} {Q : Exit → Act → World → Prop} {k n : Nat} {q : QR} (hsm : SmOk P ρ sm) (hc : CfgOk P ρ cf) (hneg : ∀ e ∈ neg, evB ρ e = false) (hr : RTm ρ ls tm a) (hdf : a.defers = ds) (hh : HOk ρ B w0 ls hp w)
 (hq : pieceAt P cf sm hp neg all tm k = some (n, q)) (hows : ∀ x ∈ q.ows, evB ρ x.1 = true → x.2.Ok ρ)
 (hk : ∀ ls'' a' w', Ext ls ls'' → RTm ρ ls'' (finL cf all q.its q.its 0 (maskT all n tm) hp).1 a' → a'.defers = ds → HOk ρ B w0 ls'' (finL cf all q.its q.its 0 (maskT all n tm) hp).2 w' → wpAnyIn (fen r) 0 P .any all Q (all.size - n) (headL all.size n) a' w') :
 wpAnyIn (fen r) 0 P .any all Q (all.size - k) (headL all.size k) a w := by
 obtain ⟨hq1, hq2⟩ := tryK_ok hq
 simp only [chkK, Bool.and_eq_true] at hq2
 obtain ⟨⟨⟨⟨⟨⟨hlen, hkn⟩, hnle⟩, hdn⟩, hB⟩, hds⟩, hpb⟩ := hq2
 have hlen' : q.its.length = n := Nat.eq_of_beq_eq_true hlen
 have hkn : k ≤ n := Nat.le_of_ble_eq_true hkn
 have hnle : n ≤ all.size := Nat.le_of_ble_eq_true hnle
 obtain ⟨hpre, _, _, hspec⟩ := regL_spec hq1.symm
 rw [knownL_len] at hspec
 have hits : ∀ j o, k ≤ j → j < n → all[j]? = some o → ItOk P cf sm hp neg all (maskT all n tm) q.its q.ows j o := fun j o hkj hj ho => by
  have e : k + (j - k) = j := by omega
  have := hspec (j - k) o (by rw [hlen', e]; exact hj) (by rw [List.getElem?_drop, List.getElem?_take, e]; simp [hj, ho])
  rwa [e] at this
 have hval : ∀ {j : Nat} {it : It}, q.its[j]? = some it → it.fresh = true → k ≤ j := fun {j it} hit hf => by
  rcases Nat.lt_or_ge j k with hj | hj
  ·have h2 := hpre _ _ (knownL_get hj)
   rw [hit] at h2
   cases h2
   cases hf
  ·exact hj
 obtain ⟨d1, d2⟩ := dstsB_ok hds
 have hdst : ∀ {i d : Nat}, i < n → dstOf all i = some d → ((all.toList.take n).map (·.dst))[i]? = some (some d) := fun {i d} hi hd => by
  unfold dstOf at hd
  cases ho : all[i]? with
  | none => rw [ho] at hd; cases hd
  | some o =>
   rw [ho] at hd
   have hd' : o.dst = some d := hd
   rw [List.getElem?_map, List.getElem?_take]
   simp [hi, ho, hd']
 have hd : (∀ (i d : Nat), i < n → dstOf all i = some d → d < tm.n) ∧ ∀ (i j d : Nat), i < n → j < n → i ≠ j → dstOf all i = some d → dstOf all j ≠ some d :=
  ⟨fun i d hi h => d1 i d (hdst hi h), fun i j d hi hj hij h h' => d2 i j d hij (hdst hi h) (hdst hj h')⟩
 have hN : ∀ (i : Nat) (x : HE) (b : Nat), hp[i]? = some x → RdBlk ρ ls i x b → b < w.heap.size := fun i x b hx hb => rd_blk hh.size (hh.ent i x hx) hb
 have hpo : PutsOk all n q.its := ⟨putsB_ok hpb, fun {i j c} hj => by
  have hjn : j < n := by rw [← hlen']; exact (List.getElem?_eq_some_iff.1 hj).1
  have hkj : k ≤ j := by
   rcases Nat.lt_or_ge j k with h | h
   ·have h2 := hpre _ _ (knownL_get (all := all) (tm := tm) h)
    rw [hj] at h2; cases h2
   ·exact h
  have hjs : j < all.size := by omega
  have ho := Array.getElem?_eq_getElem hjs
  obtain ⟨pre, _, hcase⟩ := hits j all[j] hkj hjn ho
  rcases hcase with ⟨_, hit⟩ | ⟨G, v, ow, _, _, hit, _⟩ | ⟨G, it', ow, _, _, _, hnew, hit, _⟩ | ⟨G, t, cs', _, _, hput, hit⟩
  ·rw [hj] at hit; cases hit
  ·rw [hj] at hit; cases hit
  ·rw [hj] at hit; cases hit
   exact (isNew_notPut hnew).elim
  ·rw [hj] at hit; cases hit
   exact ⟨_, ho, putOf_ok hput⟩⟩
 have hlk : ∀ {i : Nat}, i < n → (headL all.size k).getD i false = true → i < k := fun {i} hi hl => by
  rw [headL_get _ (by omega)] at hl
  exact of_decide_eq_true hl
 have hnf : ∀ {i : Nat} {it : It}, i < k → q.its[i]? = some it → it.fresh = true → False := fun hi h1 h2 => by have := hval h1 h2; omega
 refine wp_piece (r := r) (P := P) (Q := Q) k n (fun listed a' w' => Mid ρ cf B w0 ls hp tm all n ds q.its w.heap.size listed a' w' ∧ ∀ i, i < k → listed.getD i true = true) hkn hnle hdn hB ⟨?_, ?_⟩ (fun listed a' w' i o inv hm hin hrd ho => ?_) fun a' w' hm => ?_
 ·exact ⟨hdf, hr.1.symm, hh, Nat.le_refl _, fun d t hdn ht _ => hr.2 d t hdn ht, fun _ => none, fun i it d hi hl hit hdi => by
   have hik := hlk hi hl
   have h2 := hpre _ _ (knownL_get (all := all) (tm := tm) hik)
   rw [hit] at h2
   cases h2
   exact knownT_ok hr hdi, fun i j x y d e b hi hj _ hl _ hx _ fx => (hnf (hlk hi hl) hx fx).elim⟩
 ·exact fun i hi => by rw [headL_get _ (by omega)]; exact decide_eq_true hi
 ·obtain ⟨hm, hlist⟩ := hm
  have hik : k ≤ i := by
   rcases Nat.lt_or_ge i k with h | h
   ·have h1 := (mem_ready.1 hrd).1
    rw [hlist i h] at h1; cases h1
   ·exact h
  have hl' : ∀ j, j < k → (listed.setIfInBounds i true).getD j true = true := fun j hj => by rw [getD_set_ne true (by omega)]; exact hlist j hj
  rcases mid_step hsm hc hneg hd hows hpo hh.size hN (hits i o hik hin ho) inv hm hin hrd ho with ⟨h1, h2⟩ | ⟨h1, h2⟩
  ·exact .inl ⟨h1, upR.mono (fun v w'' h3 => ⟨h3, hl'⟩) h2⟩
  ·exact .inr ⟨h1, h2, hl'⟩
 ·obtain ⟨hm, _⟩ := hm
  have hall' : ∀ i, i < n → (headL all.size n).getD i false = true := fun i hi => by rw [headL_get _ (by omega)]; exact decide_eq_true hi
  have hr0 : RTm ρ ls (maskT all n tm) a' := ⟨by rw [maskT_n]; exact hm.sz.symm, fun d t hdn ht => by
   rw [maskT_n] at hdn
   rcases maskT_get ht with rfl | ⟨h1, h2⟩
   ·exact RT_unk _
   ·exact hm.old d t hdn h2 fun i hi _ => h1 i hi⟩
  have hlt : ∀ {j : Nat} {it : It}, q.its[j]? = some it → j < n := fun {j it} hj => by rw [← hlen']; exact (List.getElem?_eq_some_iff.1 hj).1
  obtain ⟨bl, hdone, hapart⟩ := hm.held
  have hdst' : ∀ (j : Nat) (it : It), q.its[j]? = some it → it.fresh = true → ∃ d, dstOf all j = some d := fun j it hj hf => by
   have hjn := hlt hj
   have hjs : j < all.size := by omega
   obtain ⟨pre, _, hcase⟩ := hits j all[j] (hval hj hf) hjn (Array.getElem?_eq_getElem hjs)
   rcases hcase with ⟨_, hit⟩ | ⟨G, v, ow, _, _, hit, _⟩ | ⟨G, it', ow, _, _, hds, _, hit, _⟩ | ⟨G, t, cs', _, _, _, hit⟩
   ·rw [hj] at hit; cases hit; cases hf
   ·rw [hj] at hit; cases hit; cases hf
   rotate_left
   ·rw [hj] at hit; cases hit; cases hf
   ·obtain ⟨d, hd'⟩ := Option.isSome_iff_exists.1 hds
    exact ⟨d, by unfold dstOf; rw [Array.getElem?_eq_getElem hjs]; exact hd'⟩
  obtain ⟨ls'', g1, g2, g3⟩ := finL_ok (cf := cf) (all := all) (ls := ls) (N := w.heap.size) (bl := bl) hh.size q.its 0 (maskT all n tm) hp ls [] hr0 hm.heap (Ext.refl _) (fun i x b hx hb => .inl (hN i x b hx hb))
   (fun j it d hj hdj => by
     rw [Nat.zero_add] at hdj ⊢
     have := hdone j it d (hlt hj) (hall' j (hlt hj)) hj hdj
     rwa [show curIt q.its (fun j => (headL all.size n).getD j false) j it = curIt q.its (fun _ => true) j it by
      cases it with
      | new sl ty cs => simp only [curIt]; rw [curC_congr (q := fun _ => true) fun m c hm => by rw [Nat.zero_add]; exact hall' m (hlt hm)]
      | val t => rfl
      | res a b => rfl
      | put a b => rfl] at this)
   (fun j it hj hf => by rw [Nat.zero_add]; exact hdst' j it hj hf)
   (fun j x b _ _ _ => by simp)
   (fun i j x y b hij hx hy fx fy hb => by
     rw [Nat.zero_add] at hb ⊢
     obtain ⟨d, hd1⟩ := hdst' i x hx fx
     obtain ⟨e, he1⟩ := hdst' j y hy fy
     exact hapart i j x y d e b (hlt hx) (hlt hy) hij (hall' i (hlt hx)) (hall' j (hlt hy)) hx hy fx fy hd1 he1 hb)
  exact hk ls'' a' w' g1 g2 hm.dfr g3
end
def It.isVal : It → Bool
 | .val _ => true
 | _ => false
def itsC (P : Program) (cf : Cfg) (sm : Sm) (hp : SH) (neg : List E) (ops : Array Oper) (tm : Tms) (k c n : Nat) : Option (List It) :=
 match regL P cf sm hp neg ops (maskT ops n tm) ((ops.toList.take c).drop k) (knownL ops tm k) [] with
 | q1 => if Nat.beq q1.its.length c && q1.ows.isEmpty then (match regL P cf sm hp neg ops (maskT ops n tm) ((ops.toList.take n).drop (c + 1)) (q1.its ++ [.val unkT]) [] with
  | q2 => if Nat.beq q2.its.length n && q2.ows.isEmpty && q2.its.all It.isVal then some q2.its else none) else none
def chkC (ops : Array Oper) (tm : Tms) (k c n : Nat) : Bool := Nat.ble k c && Nat.blt c n && Nat.ble n ops.size && downB .any ops && bndB .any ops n && dstsB tm.n ((ops.toList.take n).map (·.dst))
def lstT (ops : Array Oper) (its : List It) (L : Array Bool) : Nat → Tms → Tms
 | 0, tm => tm
 | n + 1, tm => putT (lstT ops its L n tm) (dstOf ops n) (bif L.getD n false then (match its[n]? with | some it => it.tm | none => unkT) else unkT)
section
variable {P : Program} {ρ : Env} {B : Nat} {w0 w : World} {ls : Ls} {hp : SH} {tm : Tms} {a : Act} {G : E} {cf : Cfg} {sm : Sm} {neg : List E} {all : Array Oper}
theorem ItOk.more {tmM : Tms} {its its' : List It} {ows ows' : List (E × Ow)} {j : Nat} {o : Oper} (h : ItOk P cf sm hp neg all tmM its ows j o) (hp1 : Pre its its') (ho : ∀ x ∈ ows, x ∈ ows') : ItOk P cf sm hp neg all tmM its' ows' j o := by
 obtain ⟨pre, h1, h2⟩ := h
 refine ⟨pre, fun j it hj => hp1 _ _ (h1 _ _ hj), ?_⟩
 rcases h2 with ⟨h3, h4⟩ | ⟨G, v, ow, h3, h4, h5, h6⟩ | ⟨G, it, ow, h3, h4, h5, h6, h7, h8⟩ | ⟨G, i, cs, h3, h4, h5, h6⟩
 ·exact .inl ⟨h3, hp1 _ _ h4⟩
 ·exact .inr (.inl ⟨G, v, ow, h3, h4, hp1 _ _ h5, h6.imp id (ho _)⟩)
 ·exact .inr (.inr (.inl ⟨G, it, ow, h3, h4, h5, h6, hp1 _ _ h7, h8.imp id (ho _)⟩))
 ·exact .inr (.inr (.inr ⟨G, i, cs, h3, h4, h5, hp1 _ _ h6⟩))
theorem itsC_ok {k c n : Nat} {its : List It} (h : itsC P cf sm hp neg all tm k c n = some its) (hkc : k ≤ c) (hcn : c < n) :
 its.length = n ∧ (∀ it ∈ its, it.isVal = true) ∧ its[c]? = some (.val unkT) ∧ Pre (knownL all tm k) its ∧ ∀ j o, k ≤ j → j < n → j ≠ c → all[j]? = some o → ItOk P cf sm hp neg all (maskT all n tm) its [] j o := by
 unfold itsC at h
 simp only at h
 split at h
 ·rename_i hc1
  split at h
  ·rename_i hc2
   cases h
   simp only [Bool.and_eq_true, List.isEmpty_iff] at hc1 hc2
   obtain ⟨l1, o1⟩ := hc1
   obtain ⟨⟨l2, o2⟩, hv⟩ := hc2
   have l1 := Nat.eq_of_beq_eq_true l1
   have l2 := Nat.eq_of_beq_eq_true l2
   obtain ⟨p1, _, _, s1⟩ := regL_spec (P := P) (cf := cf) (sm := sm) (hp := hp) (neg := neg) (all := all) (tmM := maskT all n tm) (l := (all.toList.take c).drop k) (its := knownL all tm k) (ows := []) rfl
   obtain ⟨p2, _, _, s2⟩ := regL_spec (P := P) (cf := cf) (sm := sm) (hp := hp) (neg := neg) (all := all) (tmM := maskT all n tm) (l := (all.toList.take n).drop (c + 1)) (its := (regL P cf sm hp neg all (maskT all n tm) ((all.toList.take c).drop k) (knownL all tm k) []).its ++ [.val unkT]) (ows := []) rfl
   rw [knownL_len] at s1
   have hpre : Pre (regL P cf sm hp neg all (maskT all n tm) ((all.toList.take c).drop k) (knownL all tm k) []).its (regL P cf sm hp neg all (maskT all n tm) ((all.toList.take n).drop (c + 1)) ((regL P cf sm hp neg all (maskT all n tm) ((all.toList.take c).drop k) (knownL all tm k) []).its ++ [.val unkT]) []).its := fun j it hj => p2 _ _ (by rw [List.getElem?_append_left (List.getElem?_eq_some_iff.1 hj).1]; exact hj)
   refine ⟨l2, fun it hit => List.all_eq_true.1 hv it hit, p2 _ _ (by rw [List.getElem?_append_right (by rw [l1]; exact Nat.le_refl _), l1, Nat.sub_self]; rfl), fun j it hj => hpre _ _ (p1 _ _ hj), fun j o hkj hj hjc ho => ?_⟩
   rcases Nat.lt_or_ge j c with hlt | hge
   ·have e : k + (j - k) = j := by omega
    have := s1 (j - k) o (by rw [l1, e]; exact hlt) (by rw [List.getElem?_drop, List.getElem?_take, e]; simp [hlt, ho])
    rw [e] at this
    exact this.more hpre fun x hx => by rw [o1] at hx; cases hx
   ·have e : c + 1 + (j - (c + 1)) = j := by omega
    have := s2 (j - (c + 1)) o (by rw [List.length_append, l1, l2]; simp only [List.length_singleton]; omega) (by rw [List.getElem?_drop, List.getElem?_take, e]; simp [hj, ho])
    rw [List.length_append, l1] at this
    simp only [List.length_singleton] at this
    rw [e] at this
    exact this.more (fun _ _ h => h) fun x hx => by rw [o2] at hx; exact hx
  ·cases h
 ·cases h
theorem lstT_n {its : List It} {L : Array Bool} : ∀ {n : Nat}, (lstT all its L n tm).n = tm.n
 | 0 => rfl
 | n + 1 => by rw [lstT, putT_len, lstT_n]
theorem lstT_get {its : List It} {L : Array Bool} {e : Nat} {y : Tm} : ∀ {n : Nat}, (lstT all its L n tm).t.get e = some y → y = unkT ∨ (∃ i it, i < n ∧ L.getD i false = true ∧ dstOf all i = some e ∧ its[i]? = some it ∧ y = it.tm) ∨ ((∀ i, i < n → dstOf all i ≠ some e) ∧ tm.t.get e = some y)
 | 0, h => .inr (.inr ⟨fun i hi => by omega, h⟩)
 | n + 1, h => by
  rcases putT_get h with ⟨h1, h2⟩ | ⟨h1, h2⟩
  ·cases hl : L.getD n false with
   | false => rw [hl] at h2; exact .inl h2
   | true =>
    rw [hl] at h2
    simp only [cond_true] at h2
    split at h2
    ·rename_i it hit
     exact .inr (.inl ⟨n, it, by omega, hl, h1, hit, h2⟩)
    ·exact .inl h2
  ·rcases lstT_get h2 with h3 | ⟨i, it, h3, h4⟩ | ⟨h3, h4⟩
   ·exact .inl h3
   ·exact .inr (.inl ⟨i, it, by omega, h4⟩)
   ·refine .inr (.inr ⟨fun i hi => ?_, h4⟩)
    by_cases hin : i = n
    ·subst hin; exact h1
    ·exact h3 i (by omega)
end
def LstR (ρ : Env) (ls : Ls) (ops : Array Oper) (its : List It) (L : Array Bool) (n : Nat) (tm : Tms) (a : Act) : Prop :=
 a.tmps.size = tm.n ∧ (∀ d t, d < tm.n → tm.t.get d = some t → (∀ i, i < n → L.getD i false = true → dstOf ops i ≠ some d) → RT ρ ls t (a.tmps.getD d undef)) ∧
 ∀ i t d, i < n → L.getD i false = true → its[i]? = some (.val t) → dstOf ops i = some d → RT ρ ls t (a.tmps.getD d undef)
section
variable {P : Program} {ρ : Env} {B : Nat} {w0 w : World} {ls : Ls} {hp : SH} {tm : Tms} {a : Act} {G : E} {cf : Cfg} {sm : Sm} {neg : List E} {all : Array Oper}
theorem LstR.ext {ls' : Ls} {its : List It} {L : Array Bool} {n : Nat} (he : Ext ls ls') (h : LstR ρ ls all its L n tm a) : LstR ρ ls' all its L n tm a :=
 ⟨h.1, fun d t h1 h2 h3 => RT.ext he (h.2.1 d t h1 h2 h3), fun i t d h1 h2 h3 h4 => RT.ext he (h.2.2 i t d h1 h2 h3 h4)⟩
theorem chkC_ok {k c n : Nat} (h : chkC all tm k c n = true) : k ≤ c ∧ c < n ∧ n ≤ all.size ∧ downB .any all = true ∧ bndB .any all n = true ∧
 (∀ (i d : Nat), i < n → dstOf all i = some d → d < tm.n) ∧ ∀ (i j d : Nat), i < n → j < n → i ≠ j → dstOf all i = some d → dstOf all j ≠ some d := by
 simp only [chkC, Bool.and_eq_true] at h
 obtain ⟨⟨⟨⟨⟨h1, h2⟩, h3⟩, h4⟩, h5⟩, h6⟩ := h
 obtain ⟨d1, d2⟩ := dstsB_ok h6
 have hdst : ∀ {i d : Nat}, i < n → dstOf all i = some d → ((all.toList.take n).map (·.dst))[i]? = some (some d) := fun {i d} hi hd => by
  unfold dstOf at hd
  cases ho : all[i]? with
  | none => rw [ho] at hd; cases hd
  | some o =>
   rw [ho] at hd
   have hd' : o.dst = some d := hd
   rw [List.getElem?_map, List.getElem?_take]
   simp [hi, ho, hd']
 exact ⟨Nat.le_of_ble_eq_true h1, Nat.le_of_ble_eq_true h2, Nat.le_of_ble_eq_true h3, h4, h5, fun i d hi h => d1 i d (hdst hi h), fun i j d hi hj hij h h' => d2 i j d hij (hdst hi h) (hdst hj h')⟩
theorem Mid.see {ds : List Deferred} {n N i : Nat} {its : List It} {listed : Array Bool} {o : Oper} (h : Mid ρ cf B w0 ls hp tm all n ds its N listed a w) (inv : HeadInv .any all n listed) (ho : all[i]? = some o) (hrd : i ∈ Region.ready .any all listed) : RTm ρ ls (seeT all its o.after.toList (maskT all n tm)) a := by
 obtain ⟨hun, o', ho', hdep⟩ := mem_ready.1 hrd
 have : o' = o := Option.some.inj (ho'.symm.trans ho)
 subst this
 refine ⟨by rw [seeT_n, maskT_n]; exact h.sz.symm, fun d t hdn ht => ?_⟩
 rw [seeT_n, maskT_n] at hdn
 rcases seeT_get ht with ⟨e, he, hb, it, hit, hde, rfl⟩ | ht
 ·have hl := hdep e (by simpa using he) hb
  have hlt : e.on < n := by
   rcases Nat.lt_or_ge e.on n with h1 | h1
   ·exact h1
   ·rcases Nat.lt_or_ge e.on all.size with h2 | h2
    ·have h3 := inv.tail e.on h1 h2
     rw [getD_both h3] at hl; cases hl
    ·rw [Array.getD_eq_getD_getElem?, Array.getElem?_eq_none (by rw [inv.size]; exact h2)] at hl; cases hl
  obtain ⟨ob, this⟩ := h.done e.on it d hlt hl hit hde
  cases it with
  | val t => exact this
  | new sl ty cs => exact RT_unk _
  | res c es => exact RT_unk _
  | put _ _ => exact RT_unk _
 ·rcases maskT_get ht with rfl | ⟨h1, h2⟩
  ·exact RT_unk _
  ·exact h.old d t hdn h2 fun j hj _ => h1 j hj
theorem putsOk_val {n : Nat} {its : List It} (hv : ∀ it ∈ its, it.isVal = true) : PutsOk all n its :=
 ⟨(fun hj _ => by have := hv _ (List.mem_of_getElem? hj); cases this), (fun hj => by have := hv _ (List.mem_of_getElem? hj); cases this)⟩
theorem isVal_fresh {it : It} (h : it.isVal = true) : it.fresh = false := by cases it <;> first | rfl | cases h
theorem cpiece_in {r : Option Nat} {ds : List Deferred} {Q : Exit → Act → World → Prop} {k c n : Nat} {its : List It} (hsm : SmOk P ρ sm) (hc : CfgOk P ρ cf) (hneg : ∀ e ∈ neg, evB ρ e = false) (hr : RTm ρ ls tm a) (hdf : a.defers = ds) (hh : HOk ρ B w0 ls hp w)
 (hits : itsC P cf sm hp neg all tm k c n = some its) (hchk : chkC all tm k c n = true)
 (hcall : ∀ L a' w' o, HeadInv .any all n L → (∀ i, i < k → L.getD i true = true) → L.getD c true = false → c ∈ Region.ready .any all L → all[c]? = some o → LstR ρ ls all its L n tm a' →
   RTm ρ ls (seeT all its o.after.toList (maskT all n tm)) a' → a'.defers = ds → HOk ρ B w0 ls hp w' → wpOpIn (fen r) 0 P all Q c (wpAnyIn (fen r) 0 P .any all Q (unl (L.setIfInBounds c true) n + (all.size - n)) (L.setIfInBounds c true)) a' w') :
 wpAnyIn (fen r) 0 P .any all Q (all.size - k) (headL all.size k) a w := by
 obtain ⟨hkc, hcn, hn, hdn, hB, hd⟩ := chkC_ok hchk
 obtain ⟨hlen, hv, hcu, hpre, hit⟩ := itsC_ok hits hkc hcn
 have key : ∀ (f : Nat) (L : Array Bool) (a' : Act) (w' : World), unl L n = f → HeadInv .any all n L → (∀ i, i < k → L.getD i true = true) → L.getD c true = false → Mid ρ cf B w0 ls hp tm all n ds its w.heap.size L a' w' → wpAnyIn (fen r) 0 P .any all Q (f + (all.size - n)) L a' w' := by
  intro f
  induction f with
  | zero => intro L a' w' hu inv hlk hlc hm; have := unl_zero hu c hcn; rw [hlc] at this; cases this
  | succ f ih =>
   intro L a' w' hu inv hlk hlc hm
   rw [show f + 1 + (all.size - n) = (f + (all.size - n)) + 1 by omega]
   obtain ⟨i, hi, hun, hmin⟩ := unl_least hu
   refine ⟨fun h0 => ?_, fun j hj => ?_⟩
   ·exfalso
    have hi' : i < all.size := by omega
    have : i ∈ Region.ready .any all L := mem_ready.2 ⟨hun, all[i], Array.getElem?_eq_getElem hi', fun e he hb => by
     have hlt := downB_spec hdn i _ (Array.getElem?_eq_getElem hi') e he hb
     have h1 := hmin e.on hlt
     have hsz : e.on < L.size := by rw [inv.size]; omega
     simp [hsz] at h1 ⊢
     exact h1⟩
    rw [h0] at this
    cases this
   ·have hjn := bnd_ready hB inv hi hun hj
    obtain ⟨hjun, oj, hoj, _⟩ := mem_ready.1 hj
    have hset := unl_set hjun hjn
    by_cases hjc : j = c
    ·subst hjc
     have := hcall L a' w' oj inv hlk hlc hj hoj ⟨hm.sz, hm.old, fun i t d h1 h2 h3 h4 => by obtain ⟨_, h⟩ := hm.done i (.val t) d h1 h2 h3 h4; exact h⟩ (hm.see inv hoj hj) hm.dfr hm.heap
     rwa [show unl (L.setIfInBounds j true) n = f by omega] at this
    ·have hkj : k ≤ j := by
      rcases Nat.lt_or_ge j k with h | h
      ·rw [hlk j h] at hjun; cases hjun
      ·exact h
     have hlk' : ∀ i, i < k → (L.setIfInBounds j true).getD i true = true := fun i hi => by rw [getD_set_ne true (by omega)]; exact hlk i hi
     have hlc' : (L.setIfInBounds j true).getD c true = false := by rw [getD_set_ne true hjc]; exact hlc
     unfold wpOpIn
     simp only [hoj]
     rcases mid_step hsm hc hneg hd (ows := []) (fun x hx => by cases hx) (putsOk_val hv) hh.size (fun i x b hx hb => rd_blk hh.size (hh.ent i x hx) hb) (hit j oj hkj hjn hjc hoj) inv hm hjn hj hoj with ⟨hw, hup⟩ | ⟨hw, hca'⟩
     ·rw [if_pos hw]
      exact Oper.wpIn_mono (fun a'' w'' h' => ih _ a'' w'' (by omega) (inv.set hj hjn) hlk' hlc' h') (upR.wp (K := Mid ρ cf B w0 ls hp tm all n ds its w.heap.size (L.setIfInBounds j true)) hup)
     ·rw [if_neg (by rw [hw]; exact Bool.false_ne_true)]
      exact ⟨fun f _ => fen_fn r f, ih _ _ _ (by omega) (inv.set hj hjn) hlk' hlc' hca'⟩
 have h0 := key (n - k) (headL all.size k) a w (unl_headL n hn) (headL_inv hdn (by omega)) (fun i hi => by rw [headL_get _ (by omega)]; exact decide_eq_true hi) (by rw [headL_get _ (by omega)]; exact decide_eq_false (by omega)) ?_
 ·rwa [show n - k + (all.size - n) = all.size - k by omega] at h0
 ·have hlk : ∀ {i : Nat}, i < n → (headL all.size k).getD i false = true → i < k := fun {i} hi hl => by
   rw [headL_get _ (by omega)] at hl
   exact of_decide_eq_true hl
  exact ⟨hdf, hr.1.symm, hh, Nat.le_refl _, fun d t hdn ht _ => hr.2 d t hdn ht, fun _ => none, fun i it d hi hl hit' hdi => by
   have h2 := hpre _ _ (knownL_get (all := all) (tm := tm) (hlk hi hl))
   rw [hit'] at h2
   cases h2
   exact knownT_ok hr hdi, fun i j x y d e b hi hj _ hl _ hx _ fx => by rw [isVal_fresh (hv x (List.mem_of_getElem? hx))] at fx; cases fx⟩
theorem cpiece_back {r : Option Nat} {ds : List Deferred} {Q : Exit → Act → World → Prop} {k c n : Nat} {its : List It} {L : Array Bool} {t : Tm} {z : Value} (hsm : SmOk P ρ sm) (hc : CfgOk P ρ cf) (hneg : ∀ e ∈ neg, evB ρ e = false) (hdf : a.defers = ds) (hh : HOk ρ B w0 ls hp w)
 (hits : itsC P cf sm hp neg all tm k c n = some its) (hchk : chkC all tm k c n = true) (inv : HeadInv .any all n L) (hlk : ∀ i, i < k → L.getD i true = true) (hlc : L.getD c true = false) (hrd : c ∈ Region.ready .any all L)
 (hr : LstR ρ ls all its L n tm a) (hz : RT ρ ls t z)
 (hk : ∀ a' w', RTm ρ ls (lstT all (its.set c (.val t)) (headL all.size n) n tm) a' → a'.defers = ds → HOk ρ B w0 ls hp w' → wpAnyIn (fen r) 0 P .any all Q (all.size - n) (headL all.size n) a' w') :
 wpAnyIn (fen r) 0 P .any all Q (unl (L.setIfInBounds c true) n + (all.size - n)) (L.setIfInBounds c true) (a.put (dstOf all c) z) w := by
 obtain ⟨hkc, hcn, hn, hdn, hB, hd⟩ := chkC_ok hchk
 obtain ⟨hlen, hv, hcu, hpre, hit⟩ := itsC_ok hits hkc hcn
 have noF : ∀ {i : Nat} {x : It}, its[i]? = some x → x.fresh = true → False := fun hx fx => by rw [isVal_fresh (hv _ (List.mem_of_getElem? hx))] at fx; cases fx
 refine wpAny_of_inv (r := r) (P := P) (ops := all) (md := .any) (n := n) (g := all.size - n) (CA := fun listed a' w' => Mid ρ cf B w0 ls hp tm all n ds its w.heap.size listed a' w' ∧ (∀ i, i < k → listed.getD i true = true) ∧ listed.getD c true = true ∧ ∀ d, dstOf all c = some d → RT ρ ls t (a'.tmps.getD d undef)) (Q' := Q) (downB_spec hdn) hn
  (fun listed inv ⟨i, hi, hun⟩ t ht => bnd_ready hB inv hi hun ht) (fun listed a' w' i o inv hm hin hrd2 ho => ?_) (fun listed a' w' inv hall hm => ?_) _ _ _ _ rfl (inv.set hrd hcn) ⟨⟨?_, ?_, hh, Nat.le_refl _, ?_, fun _ => none, ?_, fun i j x y d e b _ _ _ _ _ hx _ fx => (noF hx fx).elim⟩, fun i hi => by rw [getD_set_ne true (by omega)]; exact hlk i hi, getD_set_true' _ _, ?_⟩
 ·obtain ⟨hm, hlist, hcl, hcv⟩ := hm
  have hik : k ≤ i := by
   rcases Nat.lt_or_ge i k with h | h
   ·have h1 := (mem_ready.1 hrd2).1
    rw [hlist i h] at h1; cases h1
   ·exact h
  have hic : i ≠ c := fun e => by subst e; have h1 := (mem_ready.1 hrd2).1; rw [hcl] at h1; cases h1
  have hdo : dstOf all i = o.dst := by unfold dstOf; rw [ho]; rfl
  have hl' : ∀ j, j < k → (listed.setIfInBounds i true).getD j true = true := fun j hj => by rw [getD_set_ne true (by omega)]; exact hlist j hj
  have hc' : (listed.setIfInBounds i true).getD c true = true := by rw [getD_set_ne true hic]; exact hcl
  have hv' : ∀ u d, dstOf all c = some d → RT ρ ls t ((a'.put o.dst u).tmps.getD d undef) := fun u d hdc => by
   rcases put_getD (a := a') (d := o.dst) (u := u) (e := d) with ⟨_, h2, _⟩ | ⟨h1, _⟩
   ·exact (hd.2 i c d hin hcn hic (by rw [hdo]; exact h2) hdc).elim
   ·rw [h1]; exact hcv d hdc
  rcases mid_step hsm hc hneg hd (ows := []) (fun x hx => by cases hx) (putsOk_val hv) hh.size (fun i x b hx hb => rd_blk hh.size (hh.ent i x hx) hb) (hit i o hik hin hic ho) inv hm hin hrd2 ho with ⟨h1, h2⟩ | ⟨h1, h2⟩
  ·exact .inl ⟨h1, upR.mono (fun v w'' h3 => ⟨h3, hl', hc', hv' v⟩) h2⟩
  ·exact .inr ⟨h1, h2, hl', hc', hv' undef⟩
 ·obtain ⟨hm, hlist, hcl, hcv⟩ := hm
  have hl := headL_eq inv hall
  subst hl
  have hall' : ∀ i, i < n → (headL all.size n).getD i false = true := fun i hi => by rw [headL_get _ (by omega)]; exact decide_eq_true hi
  refine hk a' w' ⟨by rw [lstT_n]; exact hm.sz.symm, fun d y hdn hy => ?_⟩ hm.dfr hm.heap
  rw [lstT_n] at hdn
  rcases lstT_get hy with rfl | ⟨i, it, h1, h2, h3, h4, rfl⟩ | ⟨h1, h2⟩
  ·exact RT_unk _
  ·by_cases hic : i = c
   ·subst hic
    rw [List.getElem?_set_self (by rw [hlen]; exact h1)] at h4
    cases h4
    exact hcv d h3
   ·rw [List.getElem?_set_ne (fun e => hic e.symm)] at h4
    obtain ⟨ob, this⟩ := hm.done i it d h1 (hall' i h1) h4 h3
    cases it with
    | val t' => exact this
    | new sl ty cs => exact RT_unk _
    | res c es => exact RT_unk _
    | put _ _ => exact RT_unk _
  ·exact hm.old d y hdn h2 fun i hi _ => h1 i hi
 ·cases dstOf all c <;> exact hdf
 ·cases dstOf all c with
  | none => exact hr.1
  | some d => show (a.tmps.setIfInBounds d z).size = _; rw [Array.size_setIfInBounds]; exact hr.1
 ·intro d y hdn hy hno
  have hnc : dstOf all c ≠ some d := hno c hcn (getD_set_self hlc)
  rcases put_getD (a := a) (d := dstOf all c) (u := z) (e := d) with ⟨_, h2, _⟩ | ⟨h1, _⟩
  ·exact (hnc h2).elim
  ·rw [h1]; exact hr.2.1 d y hdn hy fun i hi hl => hno i hi (getD_set_true hl)
 ·intro i it d hi hl hit' hdi
  by_cases hic : i = c
  ·subst hic
   rw [hcu] at hit'; cases hit'
   exact RT_unk _
  ·rw [getD_set_ne false (fun e => hic e.symm)] at hl
   rcases put_getD (a := a) (d := dstOf all c) (u := z) (e := d) with ⟨_, h2, _⟩ | ⟨h1, _⟩
   ·exact (hd.2 c i d hcn hi (fun e => hic e.symm) h2 hdi).elim
   ·rw [h1]
    have hiv := hv it (List.mem_of_getElem? hit')
    cases it with
    | val t' => exact hr.2.2 i t' d hi hl hit' hdi
    | new sl ty cs => cases hiv
    | res c es => cases hiv
    | put _ _ => cases hiv
 ·intro d hdc
  rcases put_getD (a := a) (d := dstOf all c) (u := z) (e := d) with ⟨h1, _, _⟩ | ⟨_, h2⟩
  ·rw [h1]; exact hz
  ·rcases h2 with h2 | h2
   ·exact (h2 hdc).elim
   ·have := hd.1 c d hcn hdc
    rw [hr.1] at h2; omega
end
def lookF : List (Nat × Tm) → Nat → Option Tm
 | [], _ => none
 | (c, t) :: r, j => if Nat.beq c j then some t else lookF r j
theorem lookF_none : ∀ {l : List (Nat × Tm)} {j : Nat}, (∀ x ∈ l, x.1 ≠ j) → lookF l j = none
 | [], _, _ => rfl
 | (c, t) :: r, j, h => by
  have hc : c ≠ j := h _ (List.mem_cons_self ..)
  have hb : Nat.beq c j = false := by
   cases hq : Nat.beq c j with
   | false => rfl
   | true => exact absurd (Nat.eq_of_beq_eq_true hq) hc
  show (if Nat.beq c j then some t else lookF r j) = none
  rw [hb, if_neg Bool.false_ne_true]
  exact lookF_none fun x hx => h x (List.mem_cons_of_mem _ hx)
def itsP (P : Program) (cf : Cfg) (sm : Sm) (hp : SH) (neg : List E) (ops : Array Oper) (tmM : Tms) (fx : List (Nat × Tm)) : List Oper → List It → List (E × Ow) → Option (List It × List (E × Ow))
 | [], acc, ows => some (acc, ows)
 | o :: r, acc, ows => (match lookF fx acc.length with
  | some t => itsP P cf sm hp neg ops tmM fx r (acc ++ [.val t]) ows
  | none => (match regL P cf sm hp neg ops tmM [o] acc ows with
   | q => if Nat.beq q.its.length (acc.length + 1) && q.its.all It.isVal then itsP P cf sm hp neg ops tmM fx r q.its q.ows else none))
structure Chn (ρ : Env) (cf : Cfg) (B : Nat) (w0 : World) (ls : Ls) (hp : SH) (tm : Tms) (all : Array Oper) (n k : Nat) (ds : List Deferred) (its : List It) (dn pd : List Nat) (L : Array Bool) (a : Act) (w : World) : Prop where
 inv : HeadInv .any all n L
 lo : ∀ i, i < k → L.getD i true = true
 dn : ∀ i ∈ dn, L.getD i true = true
 pd : ∀ i ∈ pd, L.getD i true = false
 mid : ∃ N, B ≤ N ∧ (∀ (i : Nat) (x : HE) (b : Nat), hp[i]? = some x → RdBlk ρ ls i x b → b < N) ∧ Mid ρ cf B w0 ls hp tm all n ds its N L a w
section
variable {P : Program} {ρ : Env} {B : Nat} {w0 w : World} {ls : Ls} {hp : SH} {tm tmM : Tms} {a : Act} {G : E} {cf : Cfg} {sm : Sm} {neg : List E} {all : Array Oper}
theorem ne_mem {i c : Nat} {l : List Nat} (h1 : i ∈ l) (h2 : c ∉ l) : c ≠ i := fun e => h2 (by rw [e]; exact h1)
theorem itsP_ok {fx : List (Nat × Tm)} : ∀ {l : List Oper} {acc its : List It} {ows ows' : List (E × Ow)}, itsP P cf sm hp neg all tmM fx l acc ows = some (its, ows') → (∀ (i : Nat) o, l[i]? = some o → all[acc.length + i]? = some o) → (∀ it ∈ acc, it.isVal = true) →
 its.length = acc.length + l.length ∧ (∀ it ∈ its, it.isVal = true) ∧ Pre acc its ∧ (∀ x ∈ ows, x ∈ ows') ∧ ∀ j o, acc.length ≤ j → j < its.length → lookF fx j = none → all[j]? = some o → ItOk P cf sm hp neg all tmM its ows' j o
 | [], acc, its, ows, ows', h, _, hv => by
  cases h
  exact ⟨by simp, hv, fun _ _ h => h, fun _ h => h, fun j o h1 h2 => by omega⟩
 | o :: r, acc, its, ows, ows', h, hl, hv => by
  simp only [itsP] at h
  have hl' : ∀ (i : Nat) o', r[i]? = some o' → all[acc.length + 1 + i]? = some o' := fun i o' hi => by
   have := hl (i + 1) o' (by simpa using hi)
   rwa [show acc.length + (i + 1) = acc.length + 1 + i by omega] at this
  split at h
  ·rename_i t ht
   obtain ⟨i1, i2, i3, io, i4⟩ := itsP_ok h (fun i o' hi => by rw [List.length_append]; exact hl' i o' hi) (fun it hit => by
    rcases List.mem_append.1 hit with h1 | h1
    ·exact hv it h1
    ·rw [List.mem_singleton.1 h1]; rfl)
   rw [List.length_append] at i1 i4
   simp only [List.length_singleton] at i1 i4
   refine ⟨by rw [i1, List.length_cons]; omega, i2, fun j it hj => i3 _ _ (by rw [List.getElem?_append_left (List.getElem?_eq_some_iff.1 hj).1]; exact hj), io, fun j o' h1 h2 h3 h4 => ?_⟩
   by_cases e : j = acc.length
   ·rw [e, ht] at h3; cases h3
   ·exact i4 j o' (by omega) h2 h3 h4
  ·rename_i ht
   split at h
   ·rename_i hc
    simp only [Bool.and_eq_true] at hc
    obtain ⟨l1, hq⟩ := hc
    have l1 := Nat.eq_of_beq_eq_true l1
    obtain ⟨p1, p2, _, s1⟩ := regL_spec (P := P) (cf := cf) (sm := sm) (hp := hp) (neg := neg) (all := all) (tmM := tmM) (l := [o]) (its := acc) (ows := ows) rfl
    obtain ⟨i1, i2, i3, io, i4⟩ := itsP_ok h (fun i o' hi => by rw [l1]; exact hl' i o' hi) (fun it hit => List.all_eq_true.1 hq it hit)
    rw [l1] at i1 i4
    refine ⟨by rw [i1, List.length_cons]; omega, i2, fun j it hj => i3 _ _ (p1 _ _ hj), fun x hx => io x (p2 x hx), fun j o' h1 h2 h3 h4 => ?_⟩
    by_cases e : j = acc.length
    ·subst e
     have h5 := hl 0 o rfl
     rw [Nat.add_zero] at h5
     have : o' = o := Option.some.inj (h4.symm.trans h5)
     subst this
     exact (s1 0 o' (by rw [l1]; omega) rfl).more i3 io
    ·exact i4 j o' (by omega) h2 h3 h4
   ·cases h
theorem mp_in {r : Option Nat} {ds : List Deferred} {Q : Exit → Act → World → Prop} {k c n : Nat} {its : List It} {ows : List (E × Ow)} {dn cs : List Nat} (hsm : SmOk P ρ sm) (hc : CfgOk P ρ cf) (hneg : ∀ e ∈ neg, evB ρ e = false)
 (hdn : downB .any all = true) (hB : bndB .any all n = true) (hn : n ≤ all.size)
 (hd : (∀ (i d : Nat), i < n → dstOf all i = some d → d < tm.n) ∧ ∀ (i j d : Nat), i < n → j < n → i ≠ j → dstOf all i = some d → dstOf all j ≠ some d)
 (hv : ∀ it ∈ its, it.isVal = true) (hcn : c < n) (hows : ∀ x ∈ ows, evB ρ x.1 = true → x.2.Ok ρ)
 (hit : ∀ j o, k ≤ j → j < n → j ∉ dn → j ≠ c → j ∉ cs → all[j]? = some o → ItOk P cf sm hp neg all (maskT all n tm) its ows j o)
 (hdep : ∀ j ∈ cs, ∃ o, all[j]? = some o ∧ ∃ e ∈ o.after, Region.binds .any e = true ∧ e.on ∈ c :: cs)
 (hcall : ∀ L a w o, Chn ρ cf B w0 ls hp tm all n k ds its dn (c :: cs) L a w → c ∈ Region.ready .any all L → all[c]? = some o → wpOpIn (fen r) 0 P all Q c (wpAnyIn (fen r) 0 P .any all Q (unl (L.setIfInBounds c true) n + (all.size - n)) (L.setIfInBounds c true)) a w) :
 ∀ (f : Nat) (L : Array Bool) (a : Act) (w : World), unl L n = f → Chn ρ cf B w0 ls hp tm all n k ds its dn (c :: cs) L a w → wpAnyIn (fen r) 0 P .any all Q (f + (all.size - n)) L a w := by
 intro f
 induction f with
 | zero => intro L a w hu h; have := unl_zero hu c hcn; rw [h.pd c (List.mem_cons_self ..)] at this; cases this
 | succ f ih =>
  intro L a w hu h
  have inv := h.inv
  rw [show f + 1 + (all.size - n) = (f + (all.size - n)) + 1 by omega]
  obtain ⟨i, hi, hun, hmin⟩ := unl_least hu
  refine ⟨fun h0 => ?_, fun j hj => ?_⟩
  ·exfalso
   have hi' : i < all.size := by omega
   have : i ∈ Region.ready .any all L := mem_ready.2 ⟨hun, all[i], Array.getElem?_eq_getElem hi', fun e he hb => by
    have hlt := downB_spec hdn i _ (Array.getElem?_eq_getElem hi') e he hb
    have h1 := hmin e.on hlt
    have hsz : e.on < L.size := by rw [inv.size]; omega
    simp [hsz] at h1 ⊢
    exact h1⟩
   rw [h0] at this
   cases this
  ·have hjn := bnd_ready hB inv hi hun hj
   obtain ⟨hjun, oj, hoj, hdj⟩ := mem_ready.1 hj
   have hset := unl_set hjun hjn
   by_cases hjc : j = c
   ·subst hjc
    have := hcall L a w oj h hj hoj
    rwa [show unl (L.setIfInBounds j true) n = f by omega] at this
   ·have hkj : k ≤ j := by
     rcases Nat.lt_or_ge j k with h' | h'
     ·rw [h.lo j h'] at hjun; cases hjun
     ·exact h'
    have hjd : j ∉ dn := fun hm => by rw [h.dn j hm] at hjun; cases hjun
    have hjp : j ∉ cs := fun hm => by
     obtain ⟨o, ho, e, he, hb, hmem⟩ := hdep j hm
     have : o = oj := Option.some.inj (ho.symm.trans hoj)
     subst this
     have h1 := hdj e he hb
     rw [getD_both (h.pd _ hmem)] at h1; cases h1
    obtain ⟨N, hBN, hlow, hm⟩ := h.mid
    have next : ∀ {a' : Act} {w' : World}, Mid ρ cf B w0 ls hp tm all n ds its N (L.setIfInBounds j true) a' w' → Chn ρ cf B w0 ls hp tm all n k ds its dn (c :: cs) (L.setIfInBounds j true) a' w' := fun hm' =>
     ⟨inv.set hj hjn, fun i hi => by rw [getD_set_ne true (by omega)]; exact h.lo i hi, fun i hi => by rw [getD_set_ne true (ne_mem hi hjd)]; exact h.dn i hi,
       fun i hi => by
        rw [getD_set_ne true (fun e => ?_)]
        ·exact h.pd i hi
        ·subst e
         rcases List.mem_cons.1 hi with e | e
         ·exact hjc e
         ·exact hjp e, N, hBN, hlow, hm'⟩
    unfold wpOpIn
    simp only [hoj]
    rcases mid_step hsm hc hneg hd (ows := ows) hows (putsOk_val hv) hBN hlow (hit j oj hkj hjn hjd hjc hjp hoj) inv hm hjn hj hoj with ⟨hw, hup⟩ | ⟨hw, hca'⟩
    ·rw [if_pos hw]
     exact Oper.wpIn_mono (fun a'' w'' h' => ih _ a'' w'' (by omega) (next h')) (upR.wp (K := Mid ρ cf B w0 ls hp tm all n ds its N (L.setIfInBounds j true)) hup)
    ·rw [if_neg (by rw [hw]; exact Bool.false_ne_true)]
     exact ⟨fun f _ => fen_fn r f, ih _ _ _ (by omega) (next hca')⟩
theorem mp_any {r : Option Nat} {ds : List Deferred} {Q : Exit → Act → World → Prop} {k c n : Nat} {its : List It} {ows : List (E × Ow)} {dn cs : List Nat} (hsm : SmOk P ρ sm) (hc : CfgOk P ρ cf) (hneg : ∀ e ∈ neg, evB ρ e = false)
 (hdn : downB .any all = true) (hB : bndB .any all n = true) (hn : n ≤ all.size)
 (hd : (∀ (i d : Nat), i < n → dstOf all i = some d → d < tm.n) ∧ ∀ (i j d : Nat), i < n → j < n → i ≠ j → dstOf all i = some d → dstOf all j ≠ some d)
 (hv : ∀ it ∈ its, it.isVal = true) (hcn : c < n) (hows : ∀ x ∈ ows, evB ρ x.1 = true → x.2.Ok ρ)
 (hmem : c ∈ cs) (hit : ∀ j o, k ≤ j → j < n → j ∉ dn → j ∉ cs → all[j]? = some o → ItOk P cf sm hp neg all (maskT all n tm) its ows j o)
 (hcall : ∀ c ∈ cs, ∀ L a w o, Chn ρ cf B w0 ls hp tm all n k ds its dn cs L a w → c ∈ Region.ready .any all L → all[c]? = some o → wpOpIn (fen r) 0 P all Q c (wpAnyIn (fen r) 0 P .any all Q (unl (L.setIfInBounds c true) n + (all.size - n)) (L.setIfInBounds c true)) a w) :
 ∀ (f : Nat) (L : Array Bool) (a : Act) (w : World), unl L n = f → Chn ρ cf B w0 ls hp tm all n k ds its dn cs L a w → wpAnyIn (fen r) 0 P .any all Q (f + (all.size - n)) L a w := by
 intro f
 induction f with
 | zero => intro L a w hu h; have := unl_zero hu c hcn; rw [h.pd c hmem] at this; cases this
 | succ f ih =>
  intro L a w hu h
  have inv := h.inv
  rw [show f + 1 + (all.size - n) = (f + (all.size - n)) + 1 by omega]
  obtain ⟨i, hi, hun, hmin⟩ := unl_least hu
  refine ⟨fun h0 => ?_, fun j hj => ?_⟩
  ·exfalso
   have hi' : i < all.size := by omega
   have : i ∈ Region.ready .any all L := mem_ready.2 ⟨hun, all[i], Array.getElem?_eq_getElem hi', fun e he hb => by
    have hlt := downB_spec hdn i _ (Array.getElem?_eq_getElem hi') e he hb
    have h1 := hmin e.on hlt
    have hsz : e.on < L.size := by rw [inv.size]; omega
    simp [hsz] at h1 ⊢
    exact h1⟩
   rw [h0] at this
   cases this
  ·have hjn := bnd_ready hB inv hi hun hj
   obtain ⟨hjun, oj, hoj, hdj⟩ := mem_ready.1 hj
   have hset := unl_set hjun hjn
   by_cases hjc : j ∈ cs
   ·have := hcall j hjc L a w oj h hj hoj
    rwa [show unl (L.setIfInBounds j true) n = f by omega] at this
   ·have hkj : k ≤ j := by
     rcases Nat.lt_or_ge j k with h' | h'
     ·rw [h.lo j h'] at hjun; cases hjun
     ·exact h'
    have hjd : j ∉ dn := fun hm => by rw [h.dn j hm] at hjun; cases hjun
    obtain ⟨N, hBN, hlow, hm⟩ := h.mid
    have next : ∀ {a' : Act} {w' : World}, Mid ρ cf B w0 ls hp tm all n ds its N (L.setIfInBounds j true) a' w' → Chn ρ cf B w0 ls hp tm all n k ds its dn cs (L.setIfInBounds j true) a' w' := fun hm' =>
     ⟨inv.set hj hjn, fun i hi => by rw [getD_set_ne true (by omega)]; exact h.lo i hi, fun i hi => by rw [getD_set_ne true (ne_mem hi hjd)]; exact h.dn i hi,
       fun i hi => by
        rw [getD_set_ne true (fun e => hjc (by rw [e]; exact hi))]
        exact h.pd i hi, N, hBN, hlow, hm'⟩
    unfold wpOpIn
    simp only [hoj]
    rcases mid_step hsm hc hneg hd (ows := ows) hows (putsOk_val hv) hBN hlow (hit j oj hkj hjn hjd hjc hoj) inv hm hjn hj hoj with ⟨hw, hup⟩ | ⟨hw, hca'⟩
    ·rw [if_pos hw]
     exact Oper.wpIn_mono (fun a'' w'' h' => ih _ a'' w'' (by omega) (next h')) (upR.wp (K := Mid ρ cf B w0 ls hp tm all n ds its N (L.setIfInBounds j true)) hup)
    ·rw [if_neg (by rw [hw]; exact Bool.false_ne_true)]
     exact ⟨fun f _ => fen_fn r f, ih _ _ _ (by omega) (next hca')⟩
theorem mp_next {ds : List Deferred} {k c n : Nat} {its : List It} {dn dn' cs : List Nat} {ls' : Ls} {hp' : SH} {w' : World} {L : Array Bool} {t : Tm} {z : Value} (hn : n ≤ all.size)
 (hd : (∀ (i d : Nat), i < n → dstOf all i = some d → d < tm.n) ∧ ∀ (i j d : Nat), i < n → j < n → i ≠ j → dstOf all i = some d → dstOf all j ≠ some d)
 (hv : ∀ it ∈ its, it.isVal = true) (hlen : its.length = n) (hcn : c < n) (hkc : k ≤ c) (hcs : c ∉ cs) (hsub : ∀ i ∈ dn', i = c ∨ L.getD i true = true)
 (h : Chn ρ cf B w0 ls hp tm all n k ds its dn (c :: cs) L a w) (hrd : c ∈ Region.ready .any all L) (he : Ext ls ls') (hh : HOk ρ B w0 ls' hp' w') (hz : RT ρ ls' t z) :
 Chn ρ cf B w0 ls' hp' tm all n k ds (its.set c (.val t)) dn' cs (L.setIfInBounds c true) (a.put (dstOf all c) z) w' := by
 have hlc := h.pd c (List.mem_cons_self ..)
 obtain ⟨N, _, _, hm⟩ := h.mid
 have hv' : ∀ it ∈ its.set c (.val t), it.isVal = true := fun it hit => by
  rcases List.mem_or_eq_of_mem_set hit with h1 | h1
  ·exact hv it h1
  ·subst h1; rfl
 have noF : ∀ {i : Nat} {x : It}, (its.set c (.val t))[i]? = some x → x.fresh = true → False := fun hx fx => by rw [isVal_fresh (hv' _ (List.mem_of_getElem? hx))] at fx; cases fx
 refine ⟨h.inv.set hrd hcn, fun i hi => by rw [getD_set_ne true (by omega)]; exact h.lo i hi, fun i hi => ?_, fun i hi => by rw [getD_set_ne true (ne_mem hi hcs)]; exact h.pd i (List.mem_cons_of_mem _ hi),
  w'.heap.size, hh.size, fun i x b hx hb => rd_blk hh.size (hh.ent i x hx) hb, ?_, ?_, hh, Nat.le_refl _, ?_, fun _ => none, ?_, fun i j x y d e b _ _ _ _ _ hx _ fx => (noF hx fx).elim⟩
 ·by_cases hic : c = i
  ·rw [← hic]; exact getD_set_true' _ _
  ·rw [getD_set_ne true hic]
   rcases hsub i hi with h1 | h1
   ·exact absurd h1.symm hic
   ·exact h1
 ·cases dstOf all c <;> exact hm.dfr
 ·cases dstOf all c with
  | none => exact hm.sz
  | some d => show (a.tmps.setIfInBounds d z).size = _; rw [Array.size_setIfInBounds]; exact hm.sz
 ·intro d y hdn hy hno
  have hnc : dstOf all c ≠ some d := hno c hcn (getD_set_self hlc)
  rcases put_getD (a := a) (d := dstOf all c) (u := z) (e := d) with ⟨_, h2, _⟩ | ⟨h1, _⟩
  ·exact (hnc h2).elim
  ·rw [h1]; exact RT.ext he (hm.old d y hdn hy fun i hi hl => hno i hi (getD_set_true hl))
 ·intro i it d hi hl hit' hdi
  by_cases hic : i = c
  ·subst hic
   rw [List.getElem?_set_self (by rw [hlen]; exact hi)] at hit'
   cases hit'
   show RT ρ ls' t _
   rcases put_getD (a := a) (d := dstOf all i) (u := z) (e := d) with ⟨h1, _, _⟩ | ⟨_, h2⟩
   ·rw [h1]; exact hz
   ·rcases h2 with h2 | h2
    ·exact (h2 hdi).elim
    ·have := hd.1 i d hcn hdi
     have := hm.sz
     omega
  ·rw [List.getElem?_set_ne (fun e => hic e.symm)] at hit'
   rw [getD_set_ne false (fun e => hic e.symm)] at hl
   rcases put_getD (a := a) (d := dstOf all c) (u := z) (e := d) with ⟨_, h2, _⟩ | ⟨h1, _⟩
   ·exact (hd.2 c i d hcn hi (fun e => hic e.symm) h2 hdi).elim
   ·rw [h1]
    obtain ⟨ob, this⟩ := hm.done i it d hi hl hit' hdi
    have hiv := hv it (List.mem_of_getElem? hit')
    cases it with
    | val t' => exact RT.ext he this
    | new sl ty cs => cases hiv
    | res c es => cases hiv
    | put _ _ => cases hiv
theorem mp_end {r : Option Nat} {ds : List Deferred} {Q : Exit → Act → World → Prop} {k n : Nat} {its : List It} {ows : List (E × Ow)} {dn : List Nat} {L : Array Bool} (hsm : SmOk P ρ sm) (hc : CfgOk P ρ cf) (hneg : ∀ e ∈ neg, evB ρ e = false)
 (hdn : downB .any all = true) (hB : bndB .any all n = true) (hn : n ≤ all.size)
 (hd : (∀ (i d : Nat), i < n → dstOf all i = some d → d < tm.n) ∧ ∀ (i j d : Nat), i < n → j < n → i ≠ j → dstOf all i = some d → dstOf all j ≠ some d)
 (hv : ∀ it ∈ its, it.isVal = true) (hows : ∀ x ∈ ows, evB ρ x.1 = true → x.2.Ok ρ)
 (hit : ∀ j o, k ≤ j → j < n → j ∉ dn → all[j]? = some o → ItOk P cf sm hp neg all (maskT all n tm) its ows j o)
 (h : Chn ρ cf B w0 ls hp tm all n k ds its dn [] L a w)
 (hk : ∀ a' w', RTm ρ ls (lstT all its (headL all.size n) n tm) a' → a'.defers = ds → HOk ρ B w0 ls hp w' → wpAnyIn (fen r) 0 P .any all Q (all.size - n) (headL all.size n) a' w') :
 wpAnyIn (fen r) 0 P .any all Q (unl L n + (all.size - n)) L a w := by
 obtain ⟨N, hBN, hlow, hm⟩ := h.mid
 refine wpAny_of_inv (r := r) (P := P) (ops := all) (md := .any) (n := n) (g := all.size - n) (CA := fun listed a' w' => Mid ρ cf B w0 ls hp tm all n ds its N listed a' w' ∧ (∀ i, i < k → listed.getD i true = true) ∧ ∀ i ∈ dn, listed.getD i true = true) (Q' := Q) (downB_spec hdn) hn
  (fun listed inv ⟨i, hi, hun⟩ t ht => bnd_ready hB inv hi hun ht) (fun listed a' w' i o inv hm hin hrd2 ho => ?_) (fun listed a' w' inv hall hm => ?_) _ _ _ _ rfl h.inv ⟨hm, h.lo, h.dn⟩
 ·obtain ⟨hm, hlist, hcl⟩ := hm
  have hun := (mem_ready.1 hrd2).1
  have hik : k ≤ i := by
   rcases Nat.lt_or_ge i k with h' | h'
   ·rw [hlist i h'] at hun; cases hun
   ·exact h'
  have hid : i ∉ dn := fun hm' => by rw [hcl i hm'] at hun; cases hun
  have hl' : ∀ j, j < k → (listed.setIfInBounds i true).getD j true = true := fun j hj => by rw [getD_set_ne true (by omega)]; exact hlist j hj
  have hc' : ∀ j ∈ dn, (listed.setIfInBounds i true).getD j true = true := fun j hj => by rw [getD_set_ne true (ne_mem hj hid)]; exact hcl j hj
  rcases mid_step hsm hc hneg hd (ows := ows) hows (putsOk_val hv) hBN hlow (hit i o hik hin hid ho) inv hm hin hrd2 ho with ⟨h1, h2⟩ | ⟨h1, h2⟩
  ·exact .inl ⟨h1, upR.mono (fun v w'' h3 => ⟨h3, hl', hc'⟩) h2⟩
  ·exact .inr ⟨h1, h2, hl', hc'⟩
 ·obtain ⟨hm, hlist, hcl⟩ := hm
  have hl := headL_eq inv hall
  subst hl
  have hall' : ∀ i, i < n → (headL all.size n).getD i false = true := fun i hi => by rw [headL_get _ (by omega)]; exact decide_eq_true hi
  refine hk a' w' ⟨by rw [lstT_n]; exact hm.sz.symm, fun d y hdn hy => ?_⟩ hm.dfr hm.heap
  rw [lstT_n] at hdn
  rcases lstT_get hy with rfl | ⟨i, it, h1, h2, h3, h4, rfl⟩ | ⟨h1, h2⟩
  ·exact RT_unk _
  ·obtain ⟨ob, this⟩ := hm.done i it d h1 (hall' i h1) h4 h3
   cases it with
   | val t' => exact this
   | new sl ty cs => exact RT_unk _
   | res c es => exact RT_unk _
   | put _ _ => exact RT_unk _
  ·exact hm.old d y hdn h2 fun i hi _ => h1 i hi
end
end Vc
end Go.Proofs.YtelbilnnmmbmdaaDoor
