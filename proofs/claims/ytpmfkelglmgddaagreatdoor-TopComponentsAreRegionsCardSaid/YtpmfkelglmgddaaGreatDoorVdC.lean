/- What an expression means; things that this chapter adds to the heap: a list of lists, a map of lists, a set of points, a block that stays. -/
import Derived.WalkKit
import Derived.Deep.Quiet
import Derived.Maps.AppendAt
namespace Go.Proofs.YtpmfkelglmgddaaGreatDoor
namespace Vc
open Go Go.RowKit
set_option linter.unusedVariables false
structure Y where
 i : Int
 b : Bool
 v : Value
structure X where
 i : Int
 b : Bool
 v : Value
 r : Int → Int → Y
def y0 : Y := ⟨0, false, .nilIface⟩
def r0 : Int → Int → Y := fun _ _ => y0
def X.y (x : X) : Y := ⟨x.i, x.b, x.v⟩
def xI (n : Int) : X := ⟨n, false, .nilIface, r0⟩
def xB (b : Bool) : X := ⟨0, b, .nilIface, r0⟩
def xV (v : Value) : X := ⟨0, false, v, r0⟩
def xS (s : ByteArray) : X := ⟨s.size, false, .string s, r0⟩
def xR (r : Int → Int → Y) : X := ⟨0, false, .nilIface, r⟩
def bU : Option Value → Option Nat
 | some (.pointer (some a)) => some a.block
 | some (.slice (some a) _ _) => some a.block
 | _ => none
def eK (v : Option Value) (b : Nat) : Prop := bU v = some b ∨ ∃ (vs : Array Value) (j : Nat) (a : Addr) (n c : Nat), v = some (.agg vs) ∧ vs[j]? = some (.slice (some a) n c) ∧ a.block = b
def K8 (w : World) (v : Value) (d : X) : Prop :=
 ∃ (arr : Array Value) (A : Option Addr) (N C : Nat), v = .agg arr ∧ arr[0]? = some (.slice A N C) ∧ N ≤ C ∧ 0 < N ∧ N ≤ 8 ∧ arr.size = N + 1 ∧ d.i = 64 * (N : Int) ∧ (∀ j : Int, 0 ≤ j → j < d.i → 0 ≤ (d.r j 0).i ∧ (d.r j 0).i ≤ 255) ∧
  ∀ k : Nat, k < N → ∃ a b c, A = some a ∧ 64 ≤ c ∧ arr[k + 1]? = some (.slice (some b) 64 c) ∧ w.cell? (a.add k) = some (.slice (some b) 64 c) ∧ ∀ i : Nat, i < 64 → w.cell? (b.add i) = some (.int .i64 (d.r (64 * (k : Int) + i) 0).i)
def lI (l : List X) : Value := .agg (l.map fun x => Value.int .i64 x.i).toArray
def wi (log : X) (i : Int) : List X := [xI (log.r i 0).i, xI (log.r i 1).i, xI (log.r i 2).i, xI (log.r i 3).i, xI (log.r i 4).i, xI (log.r i 5).i]
def dG (l : List X) : List Int := l.map fun x => x.i
def kr (log : X) (key : List Int) : List Int := ((List.range log.i.toNat).filter fun (i : Nat) => dG (wi log i) == key).map fun (i : Nat) => (log.r i 6).i
theorem Hy {a b : List X} (h : lI a = lI b) : dG a = dG b := by
 simp only [lI, Value.agg.injEq, Array.mk.injEq] at h
 unfold dG
 induction a generalizing b with
 | nil => cases b <;> simp_all
 | cons x r ih => cases b with
  | nil => simp at h
  | cons y s => simp at h; simp [h.1, ih h.2]
theorem yE {a b : List X} (h : dG a = dG b) : lI a = lI b := by
 unfold lI
 have e : ∀ l : List X, (l.map fun x => Value.int .i64 x.i) = (dG l).map (Value.int .i64) := fun l => by simp [dG]
 rw [e a, e b, h]
def s9 (B : Nat) (w : World) (v : Value) (log : X) : Prop :=
 ∃ (arr : Array Value) (m : Nat), v = .agg arr ∧ arr.size = 2 * m ∧ 0 ≤ log.i ∧ log.i ≤ 1000000 ∧ (∀ i : Int, 0 ≤ i → i < log.i → 0 ≤ (log.r i 6).i ∧ (log.r i 6).i ≤ 1000000) ∧ (∀ j : Nat, j < m → ∃ A n c, arr[2 * j]? = some (.slice A n c) ∧ (∃ ky : List X, ky.length = 6 ∧ arr[2 * j + 1]? = some (lI ky) ∧ n = (kr log (dG ky)).length ∧ w.ownsRow B 3 1 (.slice A n c) n ((kr log (dG ky)).map (Value.int .i64)))) ∧
  (∀ j k : Nat, j < m → k < m → arr[2 * j + 1]? = arr[2 * k + 1]? → j = k) ∧ (∀ i : Nat, (i : Int) < log.i → ∃ j, j < m ∧ arr[2 * j + 1]? = some (lI (wi log i))) ∧
  ∀ (j k : Nat) (b : Nat), j < m → k < m → bU arr[2 * j]? = some b → bU arr[2 * k]? = some b → j = k
def Nt (B : Nat) (w : World) (v u : Value) (hole : List X) : Prop :=
 ∃ (L : Nat) (arr : Array Value) (es : Array MapEntry) (clock : Nat), v = .pointer (some ⟨L, 0, none⟩) ∧ u = .agg arr ∧ B ≤ L ∧ w.heap[L]? = some (.map es clock) ∧ (arr.size = 2 * es.size ∨ (arr.size = 2 * es.size + 2 ∧ hole ≠ [] ∧ arr[2 * es.size + 1]? = some (lI hole))) ∧ (hole = [] ∨ ∃ j : Nat, arr[2 * j + 1]? = some (lI hole)) ∧
  ∀ (j : Nat) (e : MapEntry), es[j]? = some e → arr[2 * j + 1]? = some e.key ∧ (hole = [] ∨ e.key ≠ lI hole → arr[2 * j]? = some e.val)
def Qn (R : X) (i : Int) : Value := .agg #[.int .i64 (R.r i 0).i, .int .i64 (R.r i 1).i, .int .i64 (R.r i 2).i]
def NA (B : Nat) (w : World) (v : Value) (R : X) : Prop :=
 ∃ (L : Nat) (es : Array MapEntry) (clock : Nat), v = .pointer (some ⟨L, 0, none⟩) ∧ B ≤ L ∧ w.heap[L]? = some (.map es clock) ∧ 0 ≤ R.i ∧ R.i ≤ 1000000 ∧ es.size = R.i.toNat ∧
  ∀ (j : Nat) (e : MapEntry), es[j]? = some e → e.val = .bool true ∧ e.key = Qn R j
abbrev Gh := Value × Array Obj
def nn (o : Gh) (t : Nat) (wr : Bool) (B : Nat) (w : World) (v : Value) (vs : List Value) (l : List X) : Prop := match t, vs, l with
 | 0, [], [d] => wr = false ∧ K8 w v d
 | 1, [u], ho => wr = true ∧ Nt B w v u ho
 | 2, [], [d] => wr = true ∧ s9 B w v d
 | 3, [], [d] => wr = true ∧ NA B w v d
 | 4, [], [] => wr = false ∧ ∃ arr, v = .agg arr ∧ (∀ (j : Nat) (a : Addr) (n c : Nat), arr[j]? = some (.slice (some a) n c) → a.block < w.heap.size) ∧ ∀ k : Nat, k < o.2.size → some k ≠ o.1.ownBlock → w.heap[k]? = o.2[k]? ∧ ∃ j n c : Nat, arr[j]? = some (.slice (some ⟨k, 0, none⟩) n c)
 | 5, [u], [] => wr = false ∧ v = .bool true ∧ u = o.1
 | _, _, _ => False
def Ej (t : Nat) (vs : List Value) (l : List X) (v : Value) : Prop := match t, vs, l with
 | 0, [.agg arr], [] => arr[0]? = some v
 | 1, [.agg arr], [k] => ∃ (a : Addr) (N C : Nat), arr[0]? = some (.slice (some a) N C) ∧ v = .pointer (some (a.add k.i.toNat)) ∧ 0 ≤ k.i ∧ k.i < N
 | 2, [.agg arr], [k] => ∃ (A : Option Addr) (N C : Nat), arr[0]? = some (.slice A N C) ∧ arr[k.i.toNat + 1]? = some v ∧ 0 ≤ k.i ∧ k.i < N
 | 3, [.agg arr], [k, i] => ∃ (A : Option Addr) (N C : Nat) (a : Addr) (c : Nat), arr[0]? = some (.slice A N C) ∧ arr[k.i.toNat + 1]? = some (.slice (some a) 64 c) ∧ v = .pointer (some (a.add i.i.toNat)) ∧ 0 ≤ k.i ∧ k.i < N ∧ 0 ≤ i.i ∧ i.i < 64
 | 4, [.agg arr], ky => (∃ j, arr[2 * j + 1]? = some (lI ky) ∧ arr[2 * j]? = some v) ∨ ((∀ j, arr[2 * j + 1]? ≠ some (lI ky)) ∧ v = .slice none 0 0)
 | 6, [vc, vt], ks => v = .iface 46 (.agg ((ks.map fun k => Value.int .i64 k.i) ++ [vc, vt]).toArray) ∧ (∀ k ∈ ks, -9223372036854775808 ≤ k.i ∧ k.i ≤ 9223372036854775807) ∧ (∃ A n c, vc = .slice A n c) ∧ ∃ A n c, vt = .slice A n c
 | 5, [.agg arr], i :: ky => ∃ (j : Nat) (a : Addr) (n c : Nat), arr[2 * j + 1]? = some (lI ky) ∧ arr[2 * j]? = some (.slice (some a) n c) ∧ v = .pointer (some (a.add i.i.toNat)) ∧ 0 ≤ i.i ∧ i.i < n
 | _, _, _ => False
def Eo (t : Nat) (d : X) : Prop := match t with
 | 0 => ∃ N : Nat, 0 < N ∧ N ≤ 8 ∧ d.i = 64 * (N : Int) ∧ ∀ j : Int, 0 ≤ j → j < d.i → 0 ≤ (d.r j 0).i ∧ (d.r j 0).i ≤ 255
 | _ => False
def Hb (t : Nat) (w : World) (d : X) (v : Value) : Prop := match t with
 | 0 => ∃ u, K8 w u d ∧ Ej 0 [u] [] v
 | _ => False
variable {o : Gh} {t : Nat} {wr : Bool} {B : Nat} {w w' : World} {v : Value} {vs : List Value} {l : List X} {d : X}
def yM (w : World) (v : Value) : Value := match v with
 | .slice (some a) N C => .agg (v :: (List.range N).map fun k => (w.cell? (a.add k)).getD undef).toArray
 | _ => .agg #[]
theorem HW (h : Hb t w d v) : Eo t d ∧ nn o t false B w (yM w v) [] [d] ∧ Ej t [yM w v] [] v := by
 match t, h with
 | 0, ⟨u, h, hs⟩ =>
  have hh := h
  obtain ⟨arr, A, N, C, rfl, h0, _, h1, h2, h5, h3, h4, h6⟩ := h
  have hs : arr[0]? = some v := hs
  rw [h0] at hs
  cases hs
  obtain ⟨a, _, _, rfl, _⟩ := h6 0 h1
  have e : yM w (.slice (some a) N C) = .agg arr := by
   show Value.agg (Value.slice (some a) N C :: (List.range N).map fun k => (w.cell? (a.add k)).getD undef).toArray = _
   congr 1
   apply Array.ext_getElem?
   intro i
   cases i with
   | zero => rw [h0]; simp
   | succ k =>
    by_cases hk : k < N
    ·obtain ⟨a', b, c, e, _, q2, q3, _⟩ := h6 k hk
     cases e
     rw [q2]; simp [hk, q3]
    ·rw [Array.getElem?_eq_none (xs := arr) (by omega), Array.getElem?_eq_none]
     simp; omega
  rw [e]
  exact ⟨⟨N, h1, h2, h3, h4⟩, ⟨rfl, hh⟩, h0⟩
theorem HX {u : Value} (h : nn o t wr B w u [] [d]) (hs : Ej t [u] [] v) : Hb t w d v := by
 match t, h, hs with
 | 0, h, hs => exact ⟨u, h.2, hs⟩
 | 1, h, hs => exact h.elim
 | 2, h, hs => cases u <;> exact hs.elim
 | 3, h, hs => cases u <;> exact hs.elim
 | 4, h, hs => exact h.elim
 | 5, h, hs => exact h.elim
 | _ + 6, h, hs => exact h.elim
theorem qp {a : Addr} {u : Value} (h : w.cell? a = some u) : a.block < w.heap.size := by
 unfold World.cell? at h
 rcases Nat.lt_or_ge a.block w.heap.size with h1 | h1
 ·exact h1
 ·rw [Array.getElem?_eq_none h1] at h
  simp at h
theorem ph (a : Addr) (n : Nat) : (a.add n).block = a.block := by unfold Addr.add; split <;> rfl
theorem th {row : Option Nat} (h : nn o t wr B w v vs l) (hg : w.grownBy w' row) (hB : ∀ k, row = some k → B ≤ k) (hne : ∀ b, eK (some v) b → row ≠ some b) : nn o t wr B w' v vs l := by
 unfold nn at h ⊢
 split at h
 ·obtain ⟨h0, arr, A, N, C, rfl, h2, h3, h4, h5, h6, h7, h8, h9⟩ := h
  refine ⟨h0, arr, A, N, C, rfl, h2, h3, h4, h5, h6, h7, h8, fun k hk => ?_⟩
  obtain ⟨a, b, c, rfl, q1, q2, q3, q4⟩ := h9 k hk
  have n1 := hne a.block (.inr ⟨arr, 0, a, N, C, rfl, h2, rfl⟩)
  have n2 := hne b.block (.inr ⟨arr, k + 1, b, 64, c, rfl, q2, rfl⟩)
  exact ⟨a, b, c, rfl, q1, q2, hg.cell q3 (fun e => n1 (by rw [← e, ph])), fun i hi => hg.cell (q4 i hi) (fun e => n2 (by rw [← e, ph]))⟩
 ·obtain ⟨h0, L, arr, es, clock, rfl, h2, h3, h4, h5⟩ := h
  refine ⟨h0, L, arr, es, clock, rfl, h2, h3, (hg.block L (Array.getElem?_eq_some_iff.1 h4).1 fun e => hne L (.inl rfl) e.symm).trans h4, h5⟩
 ·obtain ⟨h0, arr, m, rfl, h2, h3, h4, hv, h5, h6⟩ := h
  refine ⟨h0, arr, m, rfl, h2, h3, h4, hv, fun j hj => ?_, h6⟩
  obtain ⟨A, n, c, q1, ky, q0, q2, q3, q4⟩ := h5 j hj
  refine ⟨A, n, c, q1, ky, q0, q2, q3, q4.kept hg ?_⟩
  cases A with
  | none => exact .inl rfl
  | some a => exact .inr fun e => hne a.block (.inr ⟨arr, 2 * j, a, n, c, rfl, q1, rfl⟩) e.symm
 ·obtain ⟨h0, L, es, clock, rfl, h3, h4, h5⟩ := h
  exact ⟨h0, L, es, clock, rfl, h3, (hg.block L (Array.getElem?_eq_some_iff.1 h4).1 fun e => hne L (.inl rfl) e.symm).trans h4, h5⟩
 ·obtain ⟨h0, arr, rfl, h1, h2⟩ := h
  refine ⟨h0, arr, rfl, fun j a n c hj => Nat.lt_of_lt_of_le (h1 j a n c hj) hg.size, fun k hk hb => ?_⟩
  obtain ⟨q1, j, n, c, q2⟩ := h2 k hk hb
  exact ⟨(hg.block k (h1 _ _ _ _ q2) fun e => hne k (.inr ⟨arr, j, _, n, c, rfl, q2, rfl⟩) e.symm).trans q1, j, n, c, q2⟩
 ·exact h
 ·exact h
theorem eK.agg {arr : Array Value} {b : Nat} (h : eK (some (.agg arr)) b) : ∃ (j : Nat) (a : Addr) (n c : Nat), arr[j]? = some (.slice (some a) n c) ∧ a.block = b := by
 rcases h with h | ⟨_, j, a, n, c, e, h1, h2⟩
 ·cases h
 ·cases e; exact ⟨j, a, n, c, h1, h2⟩
theorem eK.pt {k b : Nat} (h : eK (some (.pointer (some ⟨k, 0, none⟩))) b) : k = b := by
 rcases h with h | ⟨_, _, _, _, _, e, _⟩
 ·exact Option.some.inj h
 ·cases e
theorem wK {log : X} {b : Nat} (h : s9 B w v log) (hb : eK (some v) b) : B ≤ b ∧ b < w.heap.size := by
 obtain ⟨arr, m, rfl, h2, h3, h4, _, h5, h6⟩ := h
 obtain ⟨j, a, n, c, q1, rfl⟩ := hb.agg
 have hj : j < 2 * m := by rw [← h2]; exact (Array.getElem?_eq_some_iff.1 q1).1
 obtain ⟨A, n', c', p1, ky, _, p2, p3, p4⟩ := h5 (j / 2) (by omega)
 rcases Nat.mod_two_eq_zero_or_one j with e | e
 ·rw [show 2 * (j / 2) = j by omega, q1] at p1
  cases p1
  exact p4.lt _ rfl
 ·rw [show 2 * (j / 2) + 1 = j by omega, q1] at p2
  cases p2
theorem AL {b : Nat} (h : nn o t wr B w v vs l) (hb : eK (some v) b) : b < w.heap.size := by
 unfold nn at h
 split at h
 ·obtain ⟨h0, arr, A, N, C, rfl, h2, h3, h4, h5, h6, h7, h8, h9⟩ := h
  obtain ⟨j, a, n, c, q1, rfl⟩ := hb.agg
  have hj : j < N + 1 := by rw [← h6]; exact (Array.getElem?_eq_some_iff.1 q1).1
  cases j with
  | zero =>
   obtain ⟨a', b', c', rfl, _, _, q3, _⟩ := h9 0 h4
   rw [h2] at q1; cases q1
   have := qp q3
   rwa [ph] at this
  | succ j =>
   obtain ⟨a', b', c', rfl, _, q2, _, q4⟩ := h9 j (by omega)
   rw [q2] at q1; cases q1
   have := qp (q4 0 (by decide))
   rwa [ph] at this
 ·obtain ⟨h0, L, arr, es, clock, rfl, h2, h3, h4, h5⟩ := h
  cases hb.pt
  exact (Array.getElem?_eq_some_iff.1 h4).1
 ·exact (wK h.2 hb).2
 ·obtain ⟨h0, L, es, clock, rfl, h3, h4, h5⟩ := h
  cases hb.pt
  exact (Array.getElem?_eq_some_iff.1 h4).1
 ·obtain ⟨h0, arr, rfl, h1, h2⟩ := h
  obtain ⟨j, a, n, c, q1, rfl⟩ := hb.agg
  exact h1 _ _ _ _ q1
 ·obtain ⟨_, rfl, _⟩ := h
  rcases hb with h | ⟨_, _, _, _, _, e, _⟩
  ·cases h
  ·cases e
 ·exact h.elim
theorem Ca {b : Nat} (h : nn o t true B w v vs l) (hb : eK (some v) b) : B ≤ b ∧ b < w.heap.size := by
 refine ⟨?_, AL h hb⟩
 unfold nn at h
 split at h
 ·cases h.1
 ·obtain ⟨h0, L, arr, es, clock, rfl, h2, h3, h4, h5⟩ := h
  cases hb.pt
  exact h3
 ·exact (wK h.2 hb).1
 ·obtain ⟨h0, L, es, clock, rfl, h3, h4, h5⟩ := h
  cases hb.pt
  exact h3
 ·cases h.1
 ·cases h.1
 ·exact h.elim
end Vc
end Go.Proofs.YtpmfkelglmgddaaGreatDoor
namespace Go.Proofs.YtpmfkelglmgddaaGreatDoor
namespace Vc
open Go Go.RowKit
set_option linter.unusedVariables false
inductive E where
 | ic (n : Int) | bc (b : Bool)
 | cv (v : Value)
 | cs (s : ByteArray)
 | var (k : Nat)
 | add (a b : E) | sub (a b : E) | mul (a b : E)
 | tdiv (a b : E) | tmod (a b : E) | div (a b : E) | mod (a b : E)
 | shl (a b : E) | shr (a b : E)
 | bit (op : BinOp) (k : IntKind) (a b : E)
 | wrap (k : IntKind) (a : E)
 | mx (a b : E) | mn (a b : E)
 | eq (a b : E) | lt (a b : E) | le (a b : E)
 | iff (a b : E) | De (a b : E)
 | not (a : E) | and (a b : E) | or (a b : E)
 | ite (c a b : E)
 | app (f : Nat) (args : E) | nil | cons (a b : E)
 | Aw (r i o : E)
 | dL (r i o e : E) | bE (sz : Nat) (es : E) | kY (es : E) | eo (r n s : E) | tj (r lo : E) | uF (r lo m s slo : E)
 | eY (r n : E)
 | can (a : E) | wL (a : E)
 | Lx (s i : E)
 | Ly (s i : E) | EC (s i : E) | mem (r n s : E)
 deriving Inhabited
structure D where
 x : X
 l : List X
def dI (n : Int) : D := ⟨xI n, []⟩
def dB (b : Bool) : D := ⟨xB b, []⟩
def dR (r : Int → Int → Y) : D := ⟨xR r, []⟩
def mb : Value → Value → Bool
 | .string a, .string b => a.toList == b.toList
 | _, _ => false
structure Env where
 x : Nat → X
 f : Nat → List X → X
 p : Nat → List X → Prop
 g : List (Nat × List Value)
 k : Nat → Option Loop := fun _ => none
 o : Gh := (.bool false, #[])
def Lz : Value → Int → Int
 | .string s, i => ((s.data.toList.getD i.toNat 0).toNat : Nat)
 | _, _ => 0
def NB : Value → Int → Int
 | .string s, i => ((Utf8.decode s i.toNat).1 : Nat)
 | _, _ => 0
def NC : Value → Int → Int
 | .string s, i => ((Utf8.decode s i.toNat).2 : Nat)
 | _, _ => 0
def QB (r : Int → Int → Y) (n : Int) (v : Value) : Bool := (List.range n.toNat).any fun (j : Nat) => mb (r j 0).v v
def ev (ρ : Env) : E → D
 | .ic n => dI n
 | .bc b => dB b
 | .cv v => ⟨xV v, []⟩
 | .cs s => ⟨xS s, []⟩
 | .var k => ⟨ρ.x k, []⟩
 | .add a b => dI ((ev ρ a).x.i + (ev ρ b).x.i)
 | .sub a b => dI ((ev ρ a).x.i - (ev ρ b).x.i)
 | .mul a b => dI ((ev ρ a).x.i * (ev ρ b).x.i)
 | .tdiv a b => dI ((ev ρ a).x.i.tdiv (ev ρ b).x.i)
 | .tmod a b => dI ((ev ρ a).x.i.tmod (ev ρ b).x.i)
 | .div a b => dI ((ev ρ a).x.i / (ev ρ b).x.i)
 | .mod a b => dI ((ev ρ a).x.i % (ev ρ b).x.i)
 | .shl a b => dI ((ev ρ a).x.i * 2 ^ (ev ρ b).x.i.toNat)
 | .shr a b => dI ((ev ρ a).x.i / 2 ^ (ev ρ b).x.i.toNat)
 | .bit op k a b => dI (bits op k (ev ρ a).x.i (ev ρ b).x.i)
 | .wrap k a => dI (k.wrap (ev ρ a).x.i)
 | .mx a b => dI (max (ev ρ a).x.i (ev ρ b).x.i)
 | .mn a b => dI (min (ev ρ a).x.i (ev ρ b).x.i)
 | .eq a b => dB (decide ((ev ρ a).x.i = (ev ρ b).x.i))
 | .lt a b => dB (decide ((ev ρ a).x.i < (ev ρ b).x.i))
 | .le a b => dB (decide ((ev ρ a).x.i ≤ (ev ρ b).x.i))
 | .iff a b => dB ((ev ρ a).x.b == (ev ρ b).x.b)
 | .De a b => dB (mb (ev ρ a).x.v (ev ρ b).x.v)
 | .not a => dB (!(ev ρ a).x.b)
 | .and a b => dB ((ev ρ a).x.b && (ev ρ b).x.b)
 | .or a b => dB ((ev ρ a).x.b || (ev ρ b).x.b)
 | .ite c a b => ⟨⟨bif (ev ρ c).x.b then (ev ρ a).x.i else (ev ρ b).x.i, bif (ev ρ c).x.b then (ev ρ a).x.b else (ev ρ b).x.b, bif (ev ρ c).x.b then (ev ρ a).x.v else (ev ρ b).x.v, bif (ev ρ c).x.b then (ev ρ a).x.r else (ev ρ b).x.r⟩, []⟩
 | .app f a => ⟨ρ.f f (ev ρ a).l, []⟩
 | .nil => ⟨xI 0, []⟩
 | .cons a b => ⟨xI 0, (ev ρ a).x :: (ev ρ b).l⟩
 | .Aw r i o => ⟨⟨((ev ρ r).x.r (ev ρ i).x.i (ev ρ o).x.i).i, ((ev ρ r).x.r (ev ρ i).x.i (ev ρ o).x.i).b, ((ev ρ r).x.r (ev ρ i).x.i (ev ρ o).x.i).v, r0⟩, []⟩
 | .dL r i o e => dR fun j p => if j = (ev ρ i).x.i ∧ p = (ev ρ o).x.i then (ev ρ e).x.y else (ev ρ r).x.r j p
 | .bE sz es => dR fun j p => ((ev ρ es).l.getD (j.toNat * sz + p.toNat) (xI 0)).y
 | .kY es => dR fun _ p => ((ev ρ es).l.getD p.toNat (xI 0)).y
 | .eo r n s => dR fun j p => if j < (ev ρ n).x.i then (ev ρ r).x.r j p else (ev ρ s).x.r (j - (ev ρ n).x.i) p
 | .tj r lo => dR fun j p => (ev ρ r).x.r (j + (ev ρ lo).x.i) p
 | .uF r lo m s slo => dR fun j p => if (ev ρ lo).x.i ≤ j ∧ j < (ev ρ lo).x.i + (ev ρ m).x.i then (ev ρ s).x.r (j - (ev ρ lo).x.i + (ev ρ slo).x.i) p else (ev ρ r).x.r j p
 | .eY r n => ⟨⟨(ev ρ n).x.i, false, .nilIface, (ev ρ r).x.r⟩, []⟩
 | .can a => dI (ev ρ a).x.i
 | .wL a => dB (ev ρ a).x.b
 | .Lx s i => dI (Lz (ev ρ s).x.v (ev ρ i).x.i)
 | .Ly s i => dI (NB (ev ρ s).x.v (ev ρ i).x.i)
 | .EC s i => dI (NC (ev ρ s).x.v (ev ρ i).x.i)
 | .mem r n s => dB (QB (ev ρ r).x.r (ev ρ n).x.i (ev ρ s).x.v)
abbrev aa (ρ : Env) (e : E) : Int := (ev ρ e).x.i
abbrev al (ρ : Env) (e : E) : Bool := (ev ρ e).x.b
abbrev aU (ρ : Env) (e : E) : Int → Int → Y := (ev ρ e).x.r
def sB (ρ : Env) : E → Prop
 | .bc b => b = true
 | .not a => ¬ sB ρ a
 | .and a b => sB ρ a ∧ sB ρ b
 | .or a b => sB ρ a ∨ sB ρ b
 | .eq a b => (ev ρ a).x.i = (ev ρ b).x.i
 | .lt a b => (ev ρ a).x.i < (ev ρ b).x.i
 | .le a b => (ev ρ a).x.i ≤ (ev ρ b).x.i
 | e => (ev ρ e).x.b = true
theorem bC (ρ : Env) (e : E) : sB ρ e ↔ (ev ρ e).x.b = true := by
 induction e <;> simp_all [sB, ev, dB, xB]
def mc : Value → Value → Bool
 | .string a, .string b => a.data.toList == b.data.toList
 | _, _ => false
theorem kZ {u v : Value} (h : mc u v = true) : u = v := by
 unfold mc at h
 split at h
 ·rename_i a b
  obtain ⟨⟨a⟩⟩ := a
  obtain ⟨⟨b⟩⟩ := b
  simp at h
  subst h; rfl
 ·cases h
def aY : E → E → Bool
 | .ic n, .ic m => n == m
 | .bc a, .bc b => a == b
 | .cv a, .cv b => mc a b
 | .cs a, .cs b => mc (.string a) (.string b)
 | .var a, .var b => a == b
 | .add a b, .add c d => aY a c && aY b d
 | .sub a b, .sub c d => aY a c && aY b d
 | .mul a b, .mul c d => aY a c && aY b d
 | .tdiv a b, .tdiv c d => aY a c && aY b d
 | .tmod a b, .tmod c d => aY a c && aY b d
 | .div a b, .div c d => aY a c && aY b d
 | .mod a b, .mod c d => aY a c && aY b d
 | .shl a b, .shl c d => aY a c && aY b d
 | .shr a b, .shr c d => aY a c && aY b d
 | .bit o k a b, .bit p l c d => decide (o = p) && decide (k = l) && aY a c && aY b d
 | .wrap k a, .wrap l b => decide (k = l) && aY a b
 | .mx a b, .mx c d => aY a c && aY b d
 | .mn a b, .mn c d => aY a c && aY b d
 | .eq a b, .eq c d => aY a c && aY b d
 | .lt a b, .lt c d => aY a c && aY b d
 | .le a b, .le c d => aY a c && aY b d
 | .iff a b, .iff c d => aY a c && aY b d
 | .not a, .not b => aY a b
 | .and a b, .and c d => aY a c && aY b d
 | .or a b, .or c d => aY a c && aY b d
 | .ite e a b, .ite f c d => aY e f && aY a c && aY b d
 | .app f a, .app g b => f == g && aY a b
 | .nil, .nil => true
 | .cons a b, .cons c d => aY a c && aY b d
 | .Aw r a o, .Aw s b p => aY r s && aY a b && aY o p
 | .De a b, .De c d => aY a c && aY b d
 | .dL r i o e, .dL s j p f => aY r s && aY i j && aY o p && aY e f
 | .bE n e, .bE m f => n == m && aY e f
 | .kY e, .kY f => aY e f
 | .eo r n s, .eo r' n' s' => aY r r' && aY n n' && aY s s'
 | .tj r n, .tj s m => aY r s && aY n m
 | .uF a b c d e, .uF a' b' c' d' e' => aY a a' && aY b b' && aY c c' && aY d d' && aY e e'
 | .eY r n, .eY s m => aY r s && aY n m
 | .can a, .can b => aY a b
 | .wL a, .wL b => aY a b
 | .Lx a b, .Lx c d => aY a c && aY b d
 | .Ly a b, .Ly c d => aY a c && aY b d
 | .EC a b, .EC c d => aY a c && aY b d
 | .mem r n s, .mem r' n' s' => aY r r' && aY n n' && aY s s'
 | _, _ => false
theorem aG {a b : E} (h : aY a b = true) : a = b := by
 induction a generalizing b <;> cases b <;> first
  | exact Bool.noConfusion (show false = true from h)
  | rfl
  | (exact congrArg E.cv (kZ h))
  | (injection kZ h with h'; exact congrArg E.cs h')
  | (simp only [aY, Bool.and_eq_true, beq_iff_eq, decide_eq_true_eq] at h; grind)
def oK : E → E → E
 | .ic n, .ic m => .ic (n + m)
 | a, .ic m => if m = 0 then a else .add a (.ic m)
 | .ic n, b => if n = 0 then b else .add (.ic n) b
 | a, b => .add a b
def uG : E → E → E
 | .ic n, .ic m => .ic (n - m)
 | a, .ic m => if m = 0 then a else .sub a (.ic m)
 | a, b => .sub a b
def HY : E → E → E
 | .ic n, .ic m => .ic (n * m)
 | a, .ic m => if m = 1 then a else if m = 0 then .ic 0 else .mul a (.ic m)
 | .ic n, b => if n = 1 then b else if n = 0 then .ic 0 else .mul (.ic n) b
 | a, b => .mul a b
def bp : E → E
 | .bc b => .bc (!b)
 | .not a => a
 | a => .not a
def kx : E → E → E
 | .bc x, b => if x then b else .bc false
 | a, .bc y => if y then a else .bc false
 | a, b => .and a b
def Gt : E → E → E
 | .bc x, b => if x then .bc true else b
 | a, .bc y => if y then .bc true else a
 | a, b => .or a b
def wM (c a b : E) : E := match c with
 | .bc x => if x then a else b
 | c => if aY a b then a else .ite c a b
def wN (c a b : E) : E := match c with
 | .bc x => if x then a else b
 | c => match a, b with
  | .bc x, .bc y => if x then (if y then .bc true else c) else (if y then bp c else .bc false)
  | .bc x, b => if x then Gt c b else kx (bp c) b
  | a, .bc y => if y then Gt (bp c) a else kx c a
  | a, b => if aY a b then a else .ite c a b
variable (ρ : Env)
theorem me (a b : E) : (ev ρ (oK a b)).x.i = (ev ρ a).x.i + (ev ρ b).x.i := by
 unfold oK; split <;> (try split) <;> simp_all [ev, dI, xI]
theorem uH (a b : E) : (ev ρ (uG a b)).x.i = (ev ρ a).x.i - (ev ρ b).x.i := by
 unfold uG; split <;> (try split) <;> simp_all [ev, dI, xI]
theorem AM (a b : E) : (ev ρ (HY a b)).x.i = (ev ρ a).x.i * (ev ρ b).x.i := by
 unfold HY; split <;> (try split) <;> (try split) <;> simp_all [ev, dI, xI]
theorem bV (a : E) : (ev ρ (bp a)).x.b = !(ev ρ a).x.b := by
 unfold bp; split <;> simp_all [ev, dB, xB]
theorem j4 (a b : E) : (ev ρ (kx a b)).x.b = ((ev ρ a).x.b && (ev ρ b).x.b) := by
 unfold kx; split <;> (try split) <;> simp_all [ev, dB, xB]
theorem yN (a b : E) : (ev ρ (Gt a b)).x.b = ((ev ρ a).x.b || (ev ρ b).x.b) := by
 unfold Gt; split <;> (try split) <;> simp_all [ev, dB, xB]
theorem ED (c a b : E) : (ev ρ (wM c a b)).x.i = bif (ev ρ c).x.b then (ev ρ a).x.i else (ev ρ b).x.i := by
 unfold wM; split
 ·split <;> simp_all [ev, dB, xB]
 ·split
  ·rename_i h; rw [aG h]; cases (ev ρ c).x.b <;> rfl
  ·simp [ev]
theorem EE (c a b : E) : (ev ρ (wN c a b)).x.b = bif (ev ρ c).x.b then (ev ρ a).x.b else (ev ρ b).x.b := by
 unfold wN; split
 ·split <;> simp_all [ev, dB, xB]
 ·rename_i c' _
  split
  ·split <;> split <;> simp_all [ev, dB, xB, bV] <;> cases (ev ρ c).x.b <;> rfl
  ·split <;> simp_all [yN, j4, bV] <;> simp_all [ev, dB, xB] <;> cases (ev ρ c).x.b <;> simp
  ·split <;> simp_all [yN, j4, bV] <;> simp_all [ev, dB, xB] <;> cases (ev ρ c).x.b <;> simp
  ·split
   ·rename_i h; rw [aG h]; cases (ev ρ c).x.b <;> rfl
   ·simp [ev]
def HZ : E → Nat → Option E
 | .cons a _, 0 => some a
 | .cons _ b, n + 1 => HZ b n
 | _, _ => none
theorem AN : ∀ {es : E} {n : Nat} {e : E}, HZ es n = some e → (ev ρ es).l[n]? = some (ev ρ e).x := by
 intro es
 induction es with
 | cons a b _ ih =>
  intro n e h
  cases n with
  | zero => cases h; rfl
  | succ n => exact ih h
 | _ => intro n e h; cases n <;> cases h
def kT : E → E → E → E
 | .bE sz es, .ic i, .ic o => if 0 ≤ i ∧ 0 ≤ o then (match HZ es (i.toNat * sz + o.toNat) with | some e => e | none => .Aw (.bE sz es) (.ic i) (.ic o)) else .Aw (.bE sz es) (.ic i) (.ic o)
 | .kY es, i, .ic o => if 0 ≤ o then (match HZ es o.toNat with | some e => e | none => .Aw (.kY es) i (.ic o)) else .Aw (.kY es) i (.ic o)
 | .dL r (.ic i') (.ic o') e, .ic i, .ic o => if i = i' ∧ o = o' then e else kT r (.ic i) (.ic o)
 | .dL r i' (.ic o') e, i, .ic o => if o = o' then (if aY i i' then e else .Aw (.dL r i' (.ic o') e) i (.ic o)) else kT r i (.ic o)
 | .tj r lo, i, o => kT r (oK i lo) o
 | r, i, o => .Aw r i o
theorem Af (r i o : E) : (ev ρ (kT r i o)).x.y = (ev ρ r).x.r (ev ρ i).x.i (ev ρ o).x.i := by
 have hy : ∀ (l : List X) (n : Nat) (x : X), l[n]? = some x → x.y = (l.getD n (xI 0)).y := fun l n x h => by rw [List.getD_eq_getElem?_getD, h]; rfl
 fun_induction kT r i o with
 | case1 sz es i o h e he => exact hy _ _ _ (AN ρ he)
 | case4 es i o h e he => exact hy _ _ _ (AN ρ he)
 | case7 r i' o' e i o h => exact (if_pos h).symm
 | case8 r i' o' e i o h ih => exact ih.trans (if_neg h).symm
 | case9 r i' o' e i h => rename_i hi; have := aG hi; subst this; exact (if_pos ⟨rfl, rfl⟩).symm
 | case11 => rename_i hno ih; exact ih.trans (if_neg (fun hh => hno hh.2)).symm
 | case12 r lo i o ih => rw [ih]; show _ = (ev ρ r).x.r _ _; rw [me]
 | _ => rfl
def E.eB (m : Nat) : E → Bool
 | .ic _ | .bc _ | .cv _ | .cs _ | .nil => true
 | .var k => decide (k < m)
 | .add a b | .sub a b | .mul a b | .tdiv a b | .tmod a b | .div a b | .mod a b | .shl a b | .shr a b | .bit _ _ a b | .mx a b | .mn a b | .eq a b | .lt a b | .le a b | .iff a b | .De a b | .and a b | .or a b | .cons a b | .tj a b | .eY a b | .Lx a b | .Ly a b | .EC a b => a.eB m && b.eB m
 | .wrap _ a | .not a | .app _ a | .bE _ a | .kY a | .can a | .wL a => a.eB m
 | .ite a b c | .Aw a b c | .eo a b c | .mem a b c => a.eB m && b.eB m && c.eB m
 | .dL a b c d => a.eB m && b.eB m && c.eB m && d.eB m
 | .uF a b c d e => a.eB m && b.eB m && c.eB m && d.eB m && e.eB m
structure Agree (m : Nat) (ρ ρ' : Env) : Prop where
 x : ∀ k, k < m → ρ'.x k = ρ.x k
 f : ρ'.f = ρ.f
 p : ρ'.p = ρ.p
 g : ρ'.g = ρ.g
 o : ρ'.o = ρ.o
theorem Agree.refl (m : Nat) (ρ : Env) : Agree m ρ ρ := ⟨fun _ _ => rfl, rfl, rfl, rfl, rfl⟩
theorem Agree.mono {m n : Nat} {ρ ρ' : Env} (h : Agree m ρ ρ') (hn : n ≤ m) : Agree n ρ ρ' := ⟨fun k hk => h.x k (by omega), h.f, h.p, h.g, h.o⟩
theorem Agree.trans {m : Nat} {ρ ρ' ρ'' : Env} (h : Agree m ρ ρ') (k : Agree m ρ' ρ'') : Agree m ρ ρ'' := ⟨fun i hi => (k.x i hi).trans (h.x i hi), k.f.trans h.f, k.p.trans h.p, k.g.trans h.g, k.o.trans h.o⟩
theorem Agree.symm {m : Nat} {ρ ρ' : Env} (h : Agree m ρ ρ') : Agree m ρ' ρ := ⟨fun k hk => (h.x k hk).symm, h.f.symm, h.p.symm, h.g.symm, h.o.symm⟩
theorem aC {m : Nat} {ρ ρ' : Env} (h : Agree m ρ ρ') {e : E} (he : e.eB m = true) : ev ρ' e = ev ρ e := by
 induction e <;> simp only [E.eB, Bool.and_eq_true, decide_eq_true_eq] at he <;> simp_all only [ev]
 case var k => rw [h.x k he]
 case app f a ih => rw [h.f]
def Env.uI (ρ : Env) (m : Nat) (y : X) : Env := { ρ with x := fun k => if k = m then y else ρ.x k }
theorem Agree.uI (ρ : Env) (m : Nat) (y : X) : Agree m ρ (ρ.uI m y) := ⟨fun k hk => if_neg (by omega), rfl, rfl, rfl, rfl⟩
def Env.cV (ρ : Env) (m : Nat) (ys : List X) : Env := { ρ with x := fun k => if m ≤ k then ys.getD (k - m) (ρ.x k) else ρ.x k }
theorem Agree.cV (ρ : Env) (m : Nat) (ys : List X) : Agree m ρ (ρ.cV m ys) := ⟨fun k hk => if_neg (by omega), rfl, rfl, rfl, rfl⟩
theorem Cb (ρ : Env) (m : Nat) : ρ.cV m [] = ρ := by
 unfold Env.cV
 have : (fun k => if m ≤ k then ([] : List X).getD (k - m) (ρ.x k) else ρ.x k) = ρ.x := by
  funext k; split <;> simp
 rw [this]
theorem yO (ρ : Env) (m : Nat) (y : X) (ys : List X) : (ρ.uI m y).cV (m + 1) ys = ρ.cV m (y :: ys) := by
 unfold Env.cV Env.uI
 congr 1
 funext k
 show (if m + 1 ≤ k then ys.getD (k - (m + 1)) (if k = m then y else ρ.x k) else (if k = m then y else ρ.x k)) = if m ≤ k then (y :: ys).getD (k - m) (ρ.x k) else ρ.x k
 by_cases h1 : m + 1 ≤ k
 ·rw [if_pos h1, if_neg (show ¬ k = m by omega), if_pos (show m ≤ k by omega), show k - m = (k - (m + 1)) + 1 by omega]
  rw [List.getD_cons_succ]
 ·rw [if_neg h1]
  by_cases h2 : k = m
  ·subst h2; rw [if_pos rfl, if_pos (Nat.le_refl _), Nat.sub_self]; rfl
  ·rw [if_neg h2, if_neg (show ¬ m ≤ k by omega)]
theorem mf (ρ : Env) (m : Nat) (ys : List X) (i : Nat) (y : X) (h : ys[i]? = some y) : (ρ.cV m ys).x (m + i) = y := by
 show (if m ≤ m + i then ys.getD (m + i - m) _ else _) = y
 rw [if_pos (by omega), show m + i - m = i by omega, List.getD_eq_getElem?_getD, h]; rfl
end Vc
end Go.Proofs.YtpmfkelglmgddaaGreatDoor
namespace Go.Proofs.YtpmfkelglmgddaaGreatDoor
namespace Vc
open Go Go.RowKit
set_option linter.unusedVariables false
def ai {α β : Type} (R : α → β → Prop) : List α → List β → Prop
 | [], [] => True
 | a :: as, b :: bs => R a b ∧ ai R as bs
 | _, _ => False
section
variable {α β : Type} {R S : α → β → Prop}
theorem ai.len : ∀ {as : List α} {bs : List β}, ai R as bs → as.length = bs.length
 | [], [], _ => rfl
 | _ :: _, _ :: _, h => by simp [ai.len h.2]
theorem ai.get : ∀ {as : List α} {bs : List β}, ai R as bs → ∀ {i : Nat} {a : α}, as[i]? = some a → ∃ b, bs[i]? = some b ∧ R a b
 | a :: _, b :: _, h, 0, x, hx => by simp at hx; subst hx; exact ⟨b, rfl, h.1⟩
 | _ :: as, _ :: bs, h, i + 1, x, hx => by simp at hx; obtain ⟨b, hb, hr⟩ := ai.get h.2 hx; exact ⟨b, by simpa using hb, hr⟩
theorem ai.none : ∀ {as : List α} {bs : List β}, ai R as bs → ∀ {i : Nat}, as[i]? = none → bs[i]? = none := fun h i hi => by
 have := h.len; simp at hi ⊢; omega
theorem ai.mono (hRS : ∀ a b, R a b → S a b) : ∀ {as : List α} {bs : List β}, ai R as bs → ai S as bs
 | [], [], _ => trivial
 | _ :: _, _ :: _, h => ⟨hRS _ _ h.1, ai.mono hRS h.2⟩
theorem ai.set : ∀ {as : List α} {bs : List β}, ai R as bs → ∀ (i : Nat) {a : α} {b : β}, R a b → ai R (as.set i a) (bs.set i b)
 | [], [], _, _, _, _, _ => trivial
 | _ :: _, _ :: _, h, 0, _, _, hr => ⟨hr, h.2⟩
 | _ :: _, _ :: _, h, i + 1, _, _, hr => ⟨h.1, ai.set h.2 i hr⟩
theorem ai.append : ∀ {as : List α} {bs : List β} {as' : List α} {bs' : List β}, ai R as bs → ai R as' bs' → ai R (as ++ as') (bs ++ bs')
 | [], [], _, _, _, h => h
 | _ :: _, _ :: _, _, _, h, h' => ⟨h.1, ai.append h.2 h'⟩
theorem ai.drop : ∀ {as : List α} {bs : List β}, ai R as bs → ∀ n, ai R (as.drop n) (bs.drop n)
 | [], [], _, n => by simp [ai]
 | _ :: _, _ :: _, h, 0 => h
 | _ :: _, _ :: _, h, n + 1 => ai.drop h.2 n
theorem ai.take : ∀ {as : List α} {bs : List β}, ai R as bs → ∀ n, ai R (as.take n) (bs.take n)
 | [], [], _, n => by simp [ai]
 | _ :: _, _ :: _, _, 0 => trivial
 | _ :: _, _ :: _, h, n + 1 => ⟨h.1, ai.take h.2 n⟩
end
theorem ai.qq {α β : Type} {R : α → β → Prop} (f : β → α) : ∀ (bs : List β), (∀ b ∈ bs, R (f b) b) → ai R (bs.map f) bs
 | [], _ => trivial
 | b :: bs, h => ⟨h b (by simp), ai.qq f bs fun x hx => h x (by simp [hx])⟩
abbrev PV := Nat × Nat
inductive SC where
 | kW
 | int (k : IntKind) (e : E) (lo hi : Int)
 | bool (e : E)
 | ptr (l off : Nat)
 | fn (f : Nat) (first cap : List PV)
 | di (v : Value)
 | Gu (e : E)
 | str (e : E) (hi : Int)
 | gl (g off : Nat)
 | ow (l : Nat)
 | sl (l sz : Nat) (lo n : E) (hi : Int)
 | sc (l off n cap : Nat)
 | pe (l sz : Nat) (i : E) (off : Nat)
 | ln (n : E) (hi : Int)
 | Gv (l : Nat)
 | pf (l K : Nat) (i : E)
 | fs (l : Nat) (i : E)
 | fq (l : Nat) (i n : E)
 | mp (l : Nat)
 | abs (t : Nat) (lo : List Nat) (A : E)
 deriving Inhabited
inductive SV where
 | c (s : SC)
 | agg (l : List SC)
 | eJ (l : List (Bool × List SC))
 deriving Inhabited
structure Tm where
 g : E
 v : SV
 deriving Inhabited
abbrev Ls := List Value
def RP (ls : Ls) (p : PV) (v : Value) : Prop := ∃ a, ls[p.1]? = some (.pointer (some a)) ∧ v = .pointer (some (a.add p.2))
def RS (ρ : Env) (ls : Ls) : SC → Value → Prop
 | .kW, _ => True
 | .int k e lo hi, v => v = .int k (aa ρ e) ∧ lo ≤ aa ρ e ∧ aa ρ e ≤ hi
 | .bool e, v => v = .bool (al ρ e)
 | .ptr l off, v => RP ls (l, off) v
 | .fn f first cap, v => ∃ fs cs, v = .func (.func f) fs.toArray cs.toArray ∧ ai (RP ls) first fs ∧ ai (RP ls) cap cs
 | .di u, v => v = u
 | .Gu e, v => v = (ev ρ e).x.v ∧ v.oneCell' = true
 | .str e hi, v => ∃ s : ByteArray, v = .string s ∧ (ev ρ e).x.v = .string s ∧ aa ρ e = s.size ∧ (s.size : Int) ≤ hi
 | .gl g off, v => v = .pointer (some ⟨g, off, none⟩)
 | .ow l, v => ls[l]? = some v ∧ ∃ A n c, v = .slice A n c
 | .sl l sz lo n hi, v => ∃ A N C A' c, ls[l]? = some (.slice A N C) ∧ v = .slice A' (aa ρ n).toNat c ∧ 0 ≤ aa ρ lo ∧ 0 ≤ aa ρ n ∧ aa ρ n ≤ hi ∧ (aa ρ lo).toNat + (aa ρ n).toNat ≤ N ∧ (aa ρ n).toNat ≤ c ∧
  (0 < (aa ρ n).toNat → ∃ a, A = some a ∧ A' = some (a.add ((aa ρ lo).toNat * sz)))
 | .sc l off n cap, v => n ≤ cap ∧ ∃ a, ls[l]? = some (.pointer (some a)) ∧ v = .slice (some (a.add off)) n cap
 | .pe l sz i off, v => ∃ a N C, ls[l]? = some (.slice (some a) N C) ∧ v = .pointer (some (a.add ((aa ρ i).toNat * sz + off))) ∧ 0 ≤ aa ρ i ∧ (aa ρ i).toNat < N
 | .ln n hi, v => ∃ A c, v = .slice A (aa ρ n).toNat c ∧ 0 ≤ aa ρ n ∧ aa ρ n ≤ hi
 | .Gv l, v => ∃ L, ls[l]? = some (.pointer (some ⟨L, 0, none⟩)) ∧ v = .func (.yield L) #[] #[]
 | .pf l K i, v => ∃ a, ls[l]? = some (.pointer (some a)) ∧ v = .pointer (some (a.add (aa ρ i).toNat)) ∧ 0 ≤ aa ρ i ∧ aa ρ i < K
 | .fs l i, v => ∃ vs : Array Value, ls[l]? = some (.agg vs) ∧ vs[(aa ρ i).toNat]? = some v ∧ 0 ≤ aa ρ i ∧ ∃ A n c, v = .slice A n c
 | .fq l i n, v => ∃ (vs : Array Value) (a : Addr) (N C : Nat), ls[l]? = some (.agg vs) ∧ vs[(aa ρ i).toNat]? = some (.slice (some a) N C) ∧ v = .pointer (some (a.add (aa ρ n).toNat)) ∧ 0 ≤ aa ρ i ∧ 0 ≤ aa ρ n ∧ (aa ρ n).toNat < N
 | .mp l, v => ∃ L, ls[l]? = some (.pointer (some ⟨L, 0, none⟩)) ∧ v = .map (some L)
 | .abs t lo A, v => ∃ vs, ai (fun l u => ls[l]? = some u) lo vs ∧ Ej t vs (ev ρ A).l v
def RE (ρ : Env) (ls : Ls) : Bool × List SC → Value → Prop
 | (true, l), v => ∃ vs, v = .agg vs.toArray ∧ ai (RS ρ ls) l vs
 | (false, [s]), v => RS ρ ls s v
 | _, _ => False
def RV (ρ : Env) (ls : Ls) : SV → Value → Prop
 | .c s, v => RS ρ ls s v
 | .agg l, v => ∃ vs, v = .agg vs.toArray ∧ ai (RS ρ ls) l vs
 | .eJ l, v => ∃ vs, v = .tuple vs.toArray ∧ ai (RE ρ ls) l vs
def RT (ρ : Env) (ls : Ls) (t : Tm) (v : Value) : Prop := (al ρ t.g = true → RV ρ ls t.v v) ∧ (al ρ t.g = false → v = undef)
def Ext (ls ls' : Ls) : Prop := ∀ (i : Nat) (b : Value), ls[i]? = some b → ls'[i]? = some b
theorem Ext.refl (ls : Ls) : Ext ls ls := fun _ _ h => h
theorem Ext.trans {a b c : Ls} (h : Ext a b) (k : Ext b c) : Ext a c := fun _ _ x => k _ _ (h _ _ x)
theorem Ext.snoc (ls : Ls) (n : Value) : Ext ls (ls ++ [n]) := fun i b h => by
 rw [List.getElem?_append_left]; exact h
 exact (List.getElem?_eq_some_iff.1 h).1
section
variable {ρ : Env} {ls ls' : Ls}
theorem RP.ext (h : Ext ls ls') {p : PV} {v : Value} (hp : RP ls p v) : RP ls' p v := let ⟨b, h1, h2⟩ := hp; ⟨b, h _ _ h1, h2⟩
theorem RS.ext (h : Ext ls ls') {s : SC} {v : Value} (hs : RS ρ ls s v) : RS ρ ls' s v := by
 cases s with
 | ptr l off => exact RP.ext h hs
 | fn f first cap => obtain ⟨fs, cs, h1, h2, h3⟩ := hs; exact ⟨fs, cs, h1, h2.mono fun _ _ => RP.ext h, h3.mono fun _ _ => RP.ext h⟩
 | ow l => exact ⟨h _ _ hs.1, hs.2⟩
 | sl l sz lo n hi => obtain ⟨A, N, C, A', c, h1, h2⟩ := hs; exact ⟨A, N, C, A', c, h _ _ h1, h2⟩
 | sc l off n cap => obtain ⟨h0, a, h1, h2⟩ := hs; exact ⟨h0, a, h _ _ h1, h2⟩
 | pe l sz i off => obtain ⟨a, N, C, h1, h2⟩ := hs; exact ⟨a, N, C, h _ _ h1, h2⟩
 | Gv l => obtain ⟨L, h1, h2⟩ := hs; exact ⟨L, h _ _ h1, h2⟩
 | pf l K i => obtain ⟨a, h1, h2⟩ := hs; exact ⟨a, h _ _ h1, h2⟩
 | fs l i => obtain ⟨vs, h1, h2⟩ := hs; exact ⟨vs, h _ _ h1, h2⟩
 | fq l i n => obtain ⟨vs, a, N, C, h1, h2⟩ := hs; exact ⟨vs, a, N, C, h _ _ h1, h2⟩
 | mp l => obtain ⟨L, h1, h2⟩ := hs; exact ⟨L, h _ _ h1, h2⟩
 | abs t lo A => obtain ⟨vs, h1, h2⟩ := hs; exact ⟨vs, h1.mono fun _ _ => h _ _, h2⟩
 | _ => exact hs
theorem RE.ext (h : Ext ls ls') {s : Bool × List SC} {v : Value} (hs : RE ρ ls s v) : RE ρ ls' s v := by
 obtain ⟨b, l⟩ := s
 cases b with
 | true => obtain ⟨vs, h1, h2⟩ := hs; exact ⟨vs, h1, h2.mono fun _ _ => RS.ext h⟩
 | false => match l, hs with | [s], hs => exact RS.ext h hs
theorem RV.ext (h : Ext ls ls') {s : SV} {v : Value} (hs : RV ρ ls s v) : RV ρ ls' s v := by
 cases s with
 | c s => exact RS.ext h hs
 | agg l => obtain ⟨vs, h1, h2⟩ := hs; exact ⟨vs, h1, h2.mono fun _ _ => RS.ext h⟩
 | eJ l => obtain ⟨vs, h1, h2⟩ := hs; exact ⟨vs, h1, h2.mono fun _ _ => RE.ext h⟩
theorem RT.ext (h : Ext ls ls') {t : Tm} {v : Value} (ht : RT ρ ls t v) : RT ρ ls' t v := ⟨fun g => RV.ext h (ht.1 g), ht.2⟩
end
def PV.av (p : Nat → Bool) (l : List PV) : Bool := l.all fun x => p x.1
def SC.av (p : Nat → Bool) (m : Nat) : SC → Bool
 | .kW | .di _ | .gl _ _ => true
 | .int _ e _ _ | .bool e | .Gu e | .str e _ | .ln e _ => e.eB m
 | .ptr l _ | .ow l | .sc l _ _ _ | .Gv l | .mp l => p l
 | .pf l _ i | .fs l i => p l && i.eB m
 | .fq l i n => p l && i.eB m && n.eB m
 | .fn _ a b => PV.av p a && PV.av p b
 | .sl l _ lo n _ => p l && lo.eB m && n.eB m
 | .pe l _ i _ => p l && i.eB m
 | .abs _ lo A => lo.all p && A.eB m
def SV.av (p : Nat → Bool) (m : Nat) : SV → Bool
 | .c s => s.av p m
 | .agg l => l.all (SC.av p m)
 | .eJ l => l.all fun x => x.2.all (SC.av p m)
def Tm.av (p : Nat → Bool) (m : Nat) (t : Tm) : Bool := t.g.eB m && t.v.av p m
structure bR (p : Nat → Bool) (m : Nat) (ρ ρ' : Env) (ls ls' : Ls) : Prop where
 ag : Agree m ρ ρ'
 ls : ∀ l, p l = true → ls'[l]? = ls[l]?
 k : ∀ l, p l = true → ρ'.k l = ρ.k l
section
variable {p : Nat → Bool} {m : Nat} {ρ ρ' : Env} {ls ls' : Ls}
theorem RP.move (h : bR p m ρ ρ' ls ls') {x : PV} {v : Value} (hx : p x.1 = true) (hp : RP ls x v) : RP ls' x v := by
 obtain ⟨a, h1, h2⟩ := hp
 exact ⟨a, by rw [h.ls _ hx]; exact h1, h2⟩
theorem Gs.move (h : bR p m ρ ρ' ls ls') : ∀ {x : List PV} {v : List Value}, PV.av p x = true → ai (RP ls) x v → ai (RP ls') x v
 | [], [], _, _ => trivial
 | x :: xs, v :: vs, hx, hp => by
  simp only [PV.av, List.all_cons, Bool.and_eq_true] at hx
  exact ⟨RP.move h hx.1 hp.1, Gs.move h hx.2 hp.2⟩
theorem np (h : bR p m ρ ρ' ls ls') : ∀ {lo : List Nat} {vs : List Value}, lo.all p = true → ai (fun l u => ls[l]? = some u) lo vs → ai (fun l u => ls'[l]? = some u) lo vs
 | [], [], _, _ => trivial
 | x :: xs, v :: vs, hx, hp => by
  simp only [List.all_cons, Bool.and_eq_true] at hx
  exact ⟨(h.ls _ hx.1).trans hp.1, np h hx.2 hp.2⟩
theorem RS.move (h : bR p m ρ ρ' ls ls') {s : SC} {v : Value} (hs : s.av p m = true) (hr : RS ρ ls s v) : RS ρ' ls' s v := by
 cases s <;> simp only [SC.av, Bool.and_eq_true] at hs
 case kW => trivial
 case int k e lo hi => simp only [RS, aa] at hr ⊢; rw [aC h.ag hs]; exact hr
 case bool e => simp only [RS, al] at hr ⊢; rw [aC h.ag hs]; exact hr
 case ptr l off => exact RP.move h hs hr
 case fn f a b => obtain ⟨fs, cs, h1, h2, h3⟩ := hr; exact ⟨fs, cs, h1, Gs.move h hs.1 h2, Gs.move h hs.2 h3⟩
 case di u => exact hr
 case Gu e => simp only [RS] at hr ⊢; rw [aC h.ag hs]; exact hr
 case str e hi => simp only [RS, aa] at hr ⊢; rw [aC h.ag hs]; exact hr
 case gl g off => exact hr
 case ow l => simp only [RS] at hr ⊢; rw [h.ls _ hs]; exact hr
 case sl l sz lo n hi => simp only [RS, aa] at hr ⊢; rw [aC h.ag hs.2, aC h.ag hs.1.2, h.ls _ hs.1.1]; exact hr
 case sc l off n cap => simp only [RS] at hr ⊢; rw [h.ls _ hs]; exact hr
 case pe l sz i off => simp only [RS, aa] at hr ⊢; rw [aC h.ag hs.2, h.ls _ hs.1]; exact hr
 case ln n hi => simp only [RS, aa] at hr ⊢; rw [aC h.ag hs]; exact hr
 case Gv l => simp only [RS] at hr ⊢; rw [h.ls _ hs]; exact hr
 case pf l K i => simp only [RS, aa] at hr ⊢; rw [aC h.ag hs.2, h.ls _ hs.1]; exact hr
 case fs l i => simp only [RS, aa] at hr ⊢; rw [aC h.ag hs.2, h.ls _ hs.1]; exact hr
 case fq l i n => simp only [RS, aa] at hr ⊢; rw [aC h.ag hs.2, aC h.ag hs.1.2, h.ls _ hs.1.1]; exact hr
 case mp l => simp only [RS] at hr ⊢; rw [h.ls _ hs]; exact hr
 case abs t lo A =>
  obtain ⟨vs, h1, h2⟩ := hr
  exact ⟨vs, np h hs.1 h1, by rw [aC h.ag hs.2]; exact h2⟩
theorem EF.move (h : bR p m ρ ρ' ls ls') : ∀ {x : List SC} {v : List Value}, x.all (SC.av p m) = true → ai (RS ρ ls) x v → ai (RS ρ' ls') x v
 | [], [], _, _ => trivial
 | x :: xs, v :: vs, hx, hp => by
  simp only [List.all_cons, Bool.and_eq_true] at hx
  exact ⟨RS.move h hx.1 hp.1, EF.move h hx.2 hp.2⟩
theorem RE.move (h : bR p m ρ ρ' ls ls') {s : Bool × List SC} {v : Value} (hs : s.2.all (SC.av p m) = true) (hr : RE ρ ls s v) : RE ρ' ls' s v := by
 obtain ⟨b, l⟩ := s
 cases b with
 | true => obtain ⟨vs, h1, h2⟩ := hr; exact ⟨vs, h1, EF.move h hs h2⟩
 | false =>
  match l, hs, hr with
  | [s], hs, hr =>
   simp only [List.all_cons, List.all_nil, Bool.and_true] at hs
   exact RS.move h hs hr
theorem My.move (h : bR p m ρ ρ' ls ls') : ∀ {x : List (Bool × List SC)} {v : List Value}, (x.all fun y => y.2.all (SC.av p m)) = true → ai (RE ρ ls) x v → ai (RE ρ' ls') x v
 | [], [], _, _ => trivial
 | x :: xs, v :: vs, hx, hp => by
  simp only [List.all_cons, Bool.and_eq_true] at hx
  exact ⟨RE.move h hx.1 hp.1, My.move h hx.2 hp.2⟩
theorem RV.move (h : bR p m ρ ρ' ls ls') {s : SV} {v : Value} (hs : s.av p m = true) (hr : RV ρ ls s v) : RV ρ' ls' s v := by
 cases s with
 | c s => exact RS.move h hs hr
 | agg l => obtain ⟨vs, h1, h2⟩ := hr; exact ⟨vs, h1, EF.move h hs h2⟩
 | eJ l => obtain ⟨vs, h1, h2⟩ := hr; exact ⟨vs, h1, My.move h hs h2⟩
theorem RT.move (h : bR p m ρ ρ' ls ls') {t : Tm} {v : Value} (ht : t.av p m = true) (hr : RT ρ ls t v) : RT ρ' ls' t v := by
 simp only [Tm.av, Bool.and_eq_true] at ht
 unfold RT al at *
 rw [aC h.ag ht.1]
 exact ⟨fun g => RV.move h ht.2 (hr.1 g), hr.2⟩
end
def SC.one : SC → Bool
 | .kW => false
 | .di v => v.oneCell'
 | .abs t _ _ => Nat.beq t 6
 | _ => true
theorem RS.uJ {ρ : Env} {ls : Ls} {s : SC} {v : Value} (h : RS ρ ls s v) (hs : s.one = true) : v.oneCell' = true := by
 cases s <;> simp [SC.one] at hs <;> simp only [RS] at h
 ·obtain ⟨rfl, _⟩ := h; rfl
 ·subst h; rfl
 ·obtain ⟨b, _, rfl⟩ := h; rfl
 ·obtain ⟨_, _, rfl, _⟩ := h; rfl
 ·subst h; exact hs
 ·exact h.2
 ·obtain ⟨s, rfl, _⟩ := h; rfl
 ·subst h; rfl
 ·obtain ⟨_, A, n, c, rfl⟩ := h; rfl
 ·obtain ⟨A, N, C, A', c, _, rfl, _⟩ := h; rfl
 ·obtain ⟨_, a, _, rfl⟩ := h; rfl
 ·obtain ⟨a, N, C, _, rfl, _⟩ := h; rfl
 ·obtain ⟨A, c, rfl, _⟩ := h; rfl
 ·obtain ⟨L, _, rfl⟩ := h; rfl
 ·obtain ⟨a, _, rfl, _⟩ := h; rfl
 ·obtain ⟨vs, _, _, _, A, n, c, rfl⟩ := h; rfl
 ·obtain ⟨vs, a, N, C, _, _, rfl, _⟩ := h; rfl
 ·obtain ⟨L, _, rfl⟩ := h; rfl
 ·subst hs
  obtain ⟨vs, _, h⟩ := h
  match vs, h with
  | [_, _], h => obtain ⟨rfl, _⟩ := h; rfl
  | [], h => exact h.elim
  | [_], h => exact h.elim
  | _ :: _ :: _ :: _, h => exact h.elim
theorem uK {v : Value} (h : v.oneCell' = true) : v.cells = #[v] := by cases v <;> simp_all [Value.oneCell', Value.cells]
def oM : Value → SC
 | .int k n => .int k (.ic n) n n
 | .bool b => .bool (.bc b)
 | v => .di v
def EG : Value → SV
 | .agg cs => .agg (cs.toList.map oM)
 | v => .c (oM v)
theorem ix (ρ : Env) (ls : Ls) (v : Value) : RS ρ ls (oM v) v := by
 cases v <;> simp [oM, RS, aa, al, ev, dI, dB, xI, xB]
theorem pj (ρ : Env) (ls : Ls) (v : Value) : RV ρ ls (EG v) v := by
 cases v with
 | agg cs => exact ⟨cs.toList, by simp, ai.qq oM _ fun b _ => ix ρ ls b⟩
 | _ => simp only [EG, RV]; exact ix ρ ls _
def hD : IntKind → Int
 | .i8 => -128 | .i16 => -32768 | .i32 => -2147483648 | .i64 => -9223372036854775808 | _ => 0
def hU : IntKind → Int
 | .i8 => 127 | .i16 => 32767 | .i32 => 2147483647 | .i64 => 9223372036854775807
 | .u8 => 255 | .u16 => 65535 | .u32 => 4294967295 | .u64 => 18446744073709551615
theorem ed {k : IntKind} {n : Int} (h : hD k ≤ n ∧ n ≤ hU k) : k.wrap n = n := by
 cases k <;> simp only [hD, hU] at h
 ·exact IntWalk.i8_in n h
 ·exact IntWalk.i16_in n h
 ·exact IntWalk.i32_in n h
 ·exact IntWalk.i64_in n h
 ·exact IntWalk.u8_in n h
 ·exact IntWalk.u16_in n h
 ·exact IntWalk.u32_in n h
 ·exact IntWalk.u64_in n h
theorem qt (k : IntKind) (n : Int) : hD k ≤ k.wrap n ∧ k.wrap n ≤ hU k := by
 cases k <;> simp only [hD, hU, IntKind.wrap, IntKind.bits, IntKind.signed] <;> simp <;> (try split) <;> omega
def EH (k : IntKind) : E → E
 | .ic n => .ic (k.wrap n)
 | e => .wrap k e
theorem qu (ρ : Env) (k : IntKind) (e : E) : aa ρ (EH k e) = k.wrap (aa ρ e) := by
 unfold EH; split <;> simp [aa, ev, dI, xI]
def fit (k : IntKind) (e : E) (lo hi : Int) : SC :=
 if decide (hD k ≤ lo) && decide (hi ≤ hU k) then .int k e lo hi else .int k (EH k e) (hD k) (hU k)
theorem dg {ρ : Env} {ls : Ls} {k : IntKind} {e : E} {lo hi n : Int} (hn : aa ρ e = n) (h1 : lo ≤ n) (h2 : n ≤ hi) : RS ρ ls (fit k e lo hi) (.int k (k.wrap n)) := by
 unfold fit
 split
 ·rename_i h
  simp only [Bool.and_eq_true, decide_eq_true_eq] at h
  exact ⟨by rw [hn, ed ⟨by omega, by omega⟩], by omega, by omega⟩
 ·have := qt k n
  exact ⟨by rw [qu, hn], by rw [qu, hn]; exact this.1, by rw [qu, hn]; exact this.2⟩
def LA (a b c d : Int) : Int := min (min a b) (min c d)
def LB (a b c d : Int) : Int := max (max a b) (max c d)
theorem Cc {x y a b c d : Int} (h1 : a ≤ x) (h2 : x ≤ b) (h3 : c ≤ y) (h4 : y ≤ d) : LA (a * c) (a * d) (b * c) (b * d) ≤ x * y ∧ x * y ≤ LB (a * c) (a * d) (b * c) (b * d) := by
 have key : ∀ (p q u v : Int), p ≤ u → u ≤ q → min (p * v) (q * v) ≤ u * v ∧ u * v ≤ max (p * v) (q * v) := by
  intro p q u v hp hq
  rcases Int.le_total 0 v with hv | hv
  ·have e1 := Int.mul_le_mul_of_nonneg_right hp hv
   have e2 := Int.mul_le_mul_of_nonneg_right hq hv
   omega
  ·have e1 := Int.mul_le_mul_of_nonpos_right hp hv
   have e2 := Int.mul_le_mul_of_nonpos_right hq hv
   omega
 have k1 := key a b x y h1 h2
 have k2 := key c d y a h3 h4
 have k3 := key c d y b h3 h4
 rw [Int.mul_comm c a, Int.mul_comm d a, Int.mul_comm y a] at k2
 rw [Int.mul_comm c b, Int.mul_comm d b, Int.mul_comm y b] at k3
 unfold LA LB
 omega
def ju : Nat → Int → Option Nat
 | 0, _ => none
 | f + 1, m => if m = 2 ^ (16 - f) - 1 then some (16 - f) else ju f m
theorem kH : ∀ (f : Nat) (m : Int) (j : Nat), ju f m = some j → m = 2 ^ j - 1 ∧ j ≤ 16
 | 0, _, _, h => by simp [ju] at h
 | f + 1, m, j, h => by
  unfold ju at h
  split at h
  ·rename_i he; cases h; exact ⟨he, by omega⟩
  ·exact kH f m j h
theorem eX (x : Int) : ((BitVec.ofInt 64 x).toNat : Int) = x % 18446744073709551616 := by
 rw [BitVec.toNat_ofInt]
 have : (0 : Int) ≤ x % 18446744073709551616 := Int.emod_nonneg _ (by decide)
 simp
 omega
theorem bits_mask (x : Int) (j : Nat) (hj : j ≤ 16) : bits .and .i64 x (2 ^ j - 1) = x % 2 ^ j := by
 have hp : (2 : Nat) ^ j ≤ 2 ^ 16 := Nat.pow_le_pow_right (by decide) hj
 have hp0 : 0 < (2 : Nat) ^ j := Nat.pow_pos (by decide)
 have e1 : ((2 : Int) ^ j - 1) = ((2 ^ j - 1 : Nat) : Int) := by rw [Int.ofNat_sub hp0]; simp
 have hm : (BitVec.ofInt 64 ((2 : Int) ^ j - 1)).toNat = 2 ^ j - 1 := by
  have h := eX ((2 : Int) ^ j - 1)
  rw [e1] at h ⊢
  omega
 have ha : (BitVec.ofInt 64 x &&& BitVec.ofInt 64 ((2 : Int) ^ j - 1)).toNat = (BitVec.ofInt 64 x).toNat % 2 ^ j := by
  rw [BitVec.toNat_and, hm, Nat.and_two_pow_sub_one_eq_mod]
 have hr : ((BitVec.ofInt 64 x).toNat % 2 ^ j : Nat) < 2 ^ j := Nat.mod_lt _ hp0
 show IntKind.i64.wrap ((BitVec.ofInt 64 x &&& BitVec.ofInt 64 ((2 : Int) ^ j - 1)).toNat : Int) = _
 rw [ha, ed (by simp only [hD, hU]; omega), Int.natCast_emod, eX]
 have hd : (2 : Int) ^ j ∣ 18446744073709551616 := ⟨2 ^ (64 - j), by rw [← Int.pow_add]; rw [show j + (64 - j) = 64 by omega]; rfl⟩
 have : ((2 ^ j : Nat) : Int) = (2 : Int) ^ j := by simp
 rw [this, Int.emod_emod_of_dvd _ hd]
def QC : E → E → E
 | .ic n, .ic m => .bc (decide (n = m))
 | a, b => .eq a b
def QD : E → E → E
 | .ic n, .ic m => .bc (!decide (n = m))
 | a, b => .not (.eq a b)
theorem EI (ρ : Env) (a b : E) : ev ρ (QC a b) = ev ρ (.eq a b) := by
 unfold QC
 split <;> rfl
theorem LC (ρ : Env) (a b : E) : ev ρ (QD a b) = ev ρ (.not (.eq a b)) := by
 unfold QD
 split <;> rfl
def nr (op : BinOp) (k : IntKind) (a : E) (l1 h1 : Int) (b : E) (l2 h2 : Int) : Option SC :=
 match op with
 | .add => some (fit k (oK a b) (l1 + l2) (h1 + h2))
 | .sub => some (fit k (uG a b) (l1 - h2) (h1 - l2))
 | .mul => some (fit k (HY a b) (LA (l1 * l2) (l1 * h2) (h1 * l2) (h1 * h2)) (LB (l1 * l2) (l1 * h2) (h1 * l2) (h1 * h2)))
 | .quo =>
  if 1 ≤ l2 ∧ 0 ≤ l1 then (match a, b with
   | .ic n, .ic m => some (fit k (.ic (n / m)) (n / m) (n / m))
   | _, _ => some (fit k (.div a b) 0 (h1 / l2)))
  else if 1 ≤ l2 then some (fit k (.tdiv a b) (min l1 0) (max h1 0)) else none
 | .rem =>
  if 1 ≤ l2 ∧ 0 ≤ l1 then (match a, b with
   | .ic n, .ic m => some (.int k (.ic (n % m)) (n % m) (n % m))
   | _, _ => some (.int k (.mod a b) 0 (min h1 (h2 - 1))))
  else if 1 ≤ l2 then some (.int k (.tmod a b) (max (min l1 0) (1 - h2)) (min (max h1 0) (h2 - 1))) else none
 | .and => (match k, b with
  | .i64, .ic m => (match ju 16 m with
   | some _ => (match a with
    | .ic n => some (.int .i64 (.ic (n % (m + 1))) (n % (m + 1)) (n % (m + 1)))
    | _ => some (.int .i64 (.mod a (.ic (m + 1))) 0 m))
   | none => some (fit k (.bit .and k a b) (hD k) (hU k)))
  | _, _ => some (fit k (.bit .and k a b) (hD k) (hU k)))
 | .or => (match a, b with
  | .ic n, .ic m => some (fit k (.ic (bits .or k n m)) (bits .or k n m) (bits .or k n m))
  | _, _ => some (fit k (.bit .or k a b) (hD k) (hU k)))
 | .xor => (match a, b with
  | .ic n, .ic m => some (fit k (.ic (bits .xor k n m)) (bits .xor k n m) (bits .xor k n m))
  | _, _ => some (fit k (.bit .xor k a b) (hD k) (hU k)))
 | .lss => some (.bool (if h1 < l2 then .bc true else if h2 ≤ l1 then .bc false else .lt a b))
 | .leq => some (.bool (if h1 ≤ l2 then .bc true else if h2 < l1 then .bc false else .le a b))
 | .gtr => some (.bool (if h2 < l1 then .bc true else if h1 ≤ l2 then .bc false else .lt b a))
 | .geq => some (.bool (if h2 ≤ l1 then .bc true else if h1 < l2 then .bc false else .le b a))
 | .eql => some (.bool (if l1 = h1 ∧ l2 = h2 ∧ l1 = l2 then .bc true else if h1 < l2 then .bc false else if h2 < l1 then .bc false else if aY a b then .bc true else QC a b))
 | .neq => some (.bool (if l1 = h1 ∧ l2 = h2 ∧ l1 = l2 then .bc false else if h1 < l2 then .bc true else if h2 < l1 then .bc true else if aY a b then .bc false else QD a b))
 | _ => none
theorem dC (op : BinOp) (k : IntKind) (x y : Int) : hD k ≤ bits op k x y ∧ bits op k x y ≤ hU k := qt k _
theorem gJ (op : BinOp) (k : IntKind) (x y : Int) : k.wrap (bits op k x y) = bits op k x y := ed (dC op k x y)
theorem eM {x y : Int} (hx : 0 ≤ x) (hy : 1 ≤ y) : x % y ≤ x := by
 obtain ⟨a, rfl⟩ := Int.eq_ofNat_of_zero_le hx
 obtain ⟨b, rfl⟩ := Int.eq_ofNat_of_zero_le (show 0 ≤ y by omega)
 rw [← Int.natCast_emod]
 exact Int.ofNat_le.2 (Nat.mod_le a b)
theorem sD {x y z : Int} (hx : 0 ≤ x) (hz : 1 ≤ z) (hy : z ≤ y) : x / y ≤ x / z := by
 obtain ⟨a, rfl⟩ := Int.eq_ofNat_of_zero_le hx
 obtain ⟨b, rfl⟩ := Int.eq_ofNat_of_zero_le (show 0 ≤ y by omega)
 obtain ⟨c, rfl⟩ := Int.eq_ofNat_of_zero_le (show 0 ≤ z by omega)
 rw [← Int.natCast_ediv, ← Int.natCast_ediv]
 exact Int.ofNat_le.2 (Nat.div_le_div_left (by omega) (by omega))
theorem yP {x y l1 h1 : Int} (hy : 1 ≤ y) (h1' : l1 ≤ x) (h2' : x ≤ h1) : min l1 0 ≤ x.tdiv y ∧ x.tdiv y ≤ max h1 0 := by
 rcases Int.le_total 0 x with hx | hx
 ·rw [Int.tdiv_eq_ediv_of_nonneg hx]
  have a1 : 0 ≤ x / y := Int.ediv_nonneg hx (by omega)
  have a2 : x / y ≤ x := Int.ediv_le_self _ hx
  omega
 ·have e : x.tdiv y = -((-x).tdiv y) := by rw [Int.neg_tdiv]; omega
  have hn : 0 ≤ -x := by omega
  rw [e, Int.tdiv_eq_ediv_of_nonneg hn]
  have a1 : 0 ≤ (-x) / y := Int.ediv_nonneg hn (by omega)
  have a2 : (-x) / y ≤ -x := Int.ediv_le_self _ hn
  omega
theorem yQ {x y l1 h1 h2 : Int} (hy : 1 ≤ y) (hy2 : y ≤ h2) (h1' : l1 ≤ x) (h2' : x ≤ h1) : max (min l1 0) (1 - h2) ≤ x.tmod y ∧ x.tmod y ≤ min (max h1 0) (h2 - 1) := by
 rcases Int.le_total 0 x with hx | hx
 ·rw [Int.tmod_eq_emod_of_nonneg hx]
  have a1 : 0 ≤ x % y := Int.emod_nonneg _ (by omega)
  have a2 : x % y < y := Int.emod_lt_of_pos _ (by omega)
  have a3 : x % y ≤ x := eM hx hy
  omega
 ·have hn : 0 ≤ -x := by omega
  have e : x.tmod y = -((-x).tmod y) := by rw [Int.neg_tmod]; omega
  rw [e, Int.tmod_eq_emod_of_nonneg hn]
  have a1 : 0 ≤ (-x) % y := Int.emod_nonneg _ (by omega)
  have a2 : (-x) % y < y := Int.emod_lt_of_pos _ (by omega)
  have a3 : (-x) % y ≤ -x := eM hn hy
  omega
theorem Cd {P : Program} {w : World} {ρ : Env} {ls : Ls} {op : BinOp} {k : IntKind} {a b : E} {l1 h1 l2 h2 : Int} {s : SC} {t : TypeId}
 (h : nr op k a l1 h1 b l2 h2 = some s) (a1 : l1 ≤ aa ρ a) (a2 : aa ρ a ≤ h1) (b1 : l2 ≤ aa ρ b) (b2 : aa ρ b ≤ h2) :
 ∃ v, (binOp op t (.int k (aa ρ a)) (.int k (aa ρ b))).run P w = .ok v w ∧ RS ρ ls s v := by
 generalize hx : aa ρ a = x at *
 generalize hy : aa ρ b = y at *
 cases op <;> simp only [nr] at h
 case add =>
  cases h
  exact ⟨_, by rw [binOp_add]; rfl, dg (n := x + y) (by rw [← hx, ← hy]; exact me ρ a b) (by omega) (by omega)⟩
 case sub =>
  cases h
  exact ⟨_, by rw [binOp_sub]; rfl, dg (n := x - y) (by rw [← hx, ← hy]; exact uH ρ a b) (by omega) (by omega)⟩
 case mul =>
  cases h
  have := Cc a1 a2 b1 b2
  exact ⟨_, by rw [binOp_mul]; rfl, dg (n := x * y) (by rw [← hx, ← hy]; exact AM ρ a b) this.1 this.2⟩
 case quo =>
  have hrun : y ≠ 0 → (binOp .quo t (.int k x) (.int k y)).run P w = .ok (.int k (k.wrap (x.tdiv y))) w := fun h0 => by
   rw [binOp_quo]; simp [Op.intDiv, h0]
  split at h
  ·rename_i hc
   obtain ⟨hc1, hc2⟩ := hc
   have e : x.tdiv y = x / y := Int.tdiv_eq_ediv_of_nonneg (by omega)
   have q0 : 0 ≤ x / y := Int.ediv_nonneg (by omega) (by omega)
   have q1 : x / y ≤ h1 / l2 := by
    have i1 : x / y ≤ x / l2 := sD (by omega) (by omega) (by omega)
    have i2 : x / l2 ≤ h1 / l2 := Int.ediv_le_ediv (by omega) a2
    omega
   refine ⟨_, hrun (by omega), ?_⟩
   rw [e]
   split at h
   ·rename_i n m
    cases h
    have : x / y = n / m := by rw [← hx, ← hy]; rfl
    refine dg (n := x / y) ?_ ?_ ?_
    ·rw [this]; rfl
    ·rw [this]; exact Int.le_refl _
    ·rw [this]; exact Int.le_refl _
   ·cases h
    exact dg (n := x / y) (by rw [← hx, ← hy]; rfl) q0 q1
  ·split at h
   ·rename_i hc
    cases h
    have := yP (y := y) (by omega) a1 a2
    exact ⟨_, hrun (by omega), dg (n := x.tdiv y) (by rw [← hx, ← hy]; rfl) this.1 this.2⟩
   ·cases h
 case rem =>
  have hrun : y ≠ 0 → (binOp .rem t (.int k x) (.int k y)).run P w = .ok (.int k (x.tmod y)) w := fun h0 => by
   rw [binOp_rem]; simp [Op.intDiv, h0]
  split at h
  ·rename_i hc
   obtain ⟨hc1, hc2⟩ := hc
   have e : x.tmod y = x % y := Int.tmod_eq_emod_of_nonneg (by omega)
   have q0 : 0 ≤ x % y := Int.emod_nonneg _ (by omega)
   have q1 : x % y < y := Int.emod_lt_of_pos _ (by omega)
   have q2 : x % y ≤ x := eM (by omega) (by omega)
   refine ⟨_, hrun (by omega), ?_⟩
   rw [e]
   split at h
   ·rename_i n m
    cases h
    have : x % y = n % m := by rw [← hx, ← hy]; rfl
    exact ⟨by rw [this]; rfl, Int.le_refl _, Int.le_refl _⟩
   ·cases h
    have : aa ρ (.mod a b) = x % y := by rw [← hx, ← hy]; rfl
    exact ⟨by rw [this], by rw [this]; omega, by rw [this]; omega⟩
  ·split at h
   ·rename_i hc
    cases h
    have := yQ (y := y) (by omega) b2 a1 a2
    have e : aa ρ (.tmod a b) = x.tmod y := by rw [← hx, ← hy]; rfl
    exact ⟨_, hrun (by omega), by rw [e], by rw [e]; exact this.1, by rw [e]; exact this.2⟩
   ·cases h
 case and =>
  have hrun : (binOp .and t (.int k x) (.int k y)).run P w = .ok (.int k (bits .and k x y)) w := by rw [binOp_and]; rfl
  have gen : RS ρ ls (fit k (.bit .and k a b) (hD k) (hU k)) (.int k (bits .and k x y)) := by
   have := dg (ρ := ρ) (ls := ls) (k := k) (e := .bit .and k a b) (n := bits .and k x y) (by rw [← hx, ← hy]; rfl) (dC .and k x y).1 (dC .and k x y).2
   rwa [gJ] at this
  refine ⟨_, hrun, ?_⟩
  split at h
  ·rename_i m
   have hm : y = m := by rw [← hy]; rfl
   split at h
   ·rename_i j hj
    obtain ⟨e1, e2⟩ := kH _ _ _ hj
    have hb := bits_mask x j e2
    have hpos : (0 : Int) < 2 ^ j := Int.pow_pos (by decide)
    have e3 : m + 1 = 2 ^ j := by omega
    have q0 : 0 ≤ x % 2 ^ j := Int.emod_nonneg _ (by omega)
    have q1 : x % 2 ^ j < 2 ^ j := Int.emod_lt_of_pos _ hpos
    rw [hm, e1, hb]
    split at h
    ·rename_i n
     cases h
     have hxn : x = n := by rw [← hx]; rfl
     subst hxn
     exact ⟨by rw [e3]; rfl, by rw [e3]; exact Int.le_refl _, by rw [e3]; exact Int.le_refl _⟩
    ·cases h
     have : aa ρ (.mod a (.ic (m + 1))) = x % 2 ^ j := by rw [← hx, e3]; rfl
     exact ⟨by rw [this], by rw [this]; omega, by rw [this]; omega⟩
   ·cases h; exact gen
  ·cases h; exact gen
 case or =>
  have hrun : (binOp .or t (.int k x) (.int k y)).run P w = .ok (.int k (bits .or k x y)) w := by rw [binOp_or]; rfl
  refine ⟨_, hrun, ?_⟩
  split at h
  ·rename_i n m
   cases h
   have hx' : x = n := by rw [← hx]; rfl
   have hy' : y = m := by rw [← hy]; rfl
   rw [hx', hy']
   have := dg (ρ := ρ) (ls := ls) (k := k) (e := .ic (bits .or k n m)) (n := bits .or k n m) rfl (Int.le_refl _) (Int.le_refl _)
   rwa [gJ] at this
  ·cases h
   have := dg (ρ := ρ) (ls := ls) (k := k) (e := .bit .or k a b) (n := bits .or k x y) (by rw [← hx, ← hy]; rfl) (dC .or k x y).1 (dC .or k x y).2
   rwa [gJ] at this
 case xor =>
  have hrun : (binOp .xor t (.int k x) (.int k y)).run P w = .ok (.int k (bits .xor k x y)) w := by rw [binOp_xor]; rfl
  refine ⟨_, hrun, ?_⟩
  split at h
  ·rename_i n m
   cases h
   have hx' : x = n := by rw [← hx]; rfl
   have hy' : y = m := by rw [← hy]; rfl
   rw [hx', hy']
   have := dg (ρ := ρ) (ls := ls) (k := k) (e := .ic (bits .xor k n m)) (n := bits .xor k n m) rfl (Int.le_refl _) (Int.le_refl _)
   rwa [gJ] at this
  ·cases h
   have := dg (ρ := ρ) (ls := ls) (k := k) (e := .bit .xor k a b) (n := bits .xor k x y) (by rw [← hx, ← hy]; rfl) (dC .xor k x y).1 (dC .xor k x y).2
   rwa [gJ] at this
 case lss =>
  cases h
  refine ⟨_, by rw [binOp_lss]; rfl, ?_⟩
  simp only [RS]
  split
  ·rename_i hc; simp [al, ev, dB, xB]; omega
  ·split
   ·rename_i hc; simp [al, ev, dB, xB]; omega
   ·simp only [al, ev, dB, xB]; rw [← hx, ← hy]
 case leq =>
  cases h
  refine ⟨_, by rw [binOp_leq]; rfl, ?_⟩
  simp only [RS]
  split
  ·rename_i hc; simp [al, ev, dB, xB]; omega
  ·split
   ·rename_i hc; simp [al, ev, dB, xB]; omega
   ·simp only [al, ev, dB, xB]; rw [← hx, ← hy]
 case gtr =>
  cases h
  refine ⟨_, by rw [binOp_gtr]; rfl, ?_⟩
  simp only [RS]
  split
  ·rename_i hc; simp [al, ev, dB, xB]; omega
  ·split
   ·rename_i hc; simp [al, ev, dB, xB]; omega
   ·simp only [al, ev, dB, xB]; rw [← hx, ← hy]
 case geq =>
  cases h
  refine ⟨_, by rw [binOp_geq]; rfl, ?_⟩
  simp only [RS]
  split
  ·rename_i hc; simp [al, ev, dB, xB]; omega
  ·split
   ·rename_i hc; simp [al, ev, dB, xB]; omega
   ·simp only [al, ev, dB, xB]; rw [← hx, ← hy]
 case eql =>
  cases h
  refine ⟨_, by rw [binOp_eql]; rfl, ?_⟩
  simp only [RS]
  split
  ·rename_i hc; simp [al, ev, dB, xB]; omega
  ·split
   ·rename_i hc; simp [al, ev, dB, xB]; omega
   ·split
    ·rename_i hc; simp [al, ev, dB, xB]; omega
    ·split
     ·rename_i he
      have : x = y := by rw [← hx, ← hy, aG he]
      simp [al, ev, dB, xB, this]
     ·simp only [al, EI, ev, dB, xB]; rw [← hx, ← hy]; rfl
 case neq =>
  cases h
  refine ⟨_, by rw [binOp_neq]; rfl, ?_⟩
  simp only [RS]
  split
  ·rename_i hc; simp [al, ev, dB, xB]; omega
  ·split
   ·rename_i hc; simp [al, ev, dB, xB]; omega
   ·split
    ·rename_i hc; simp [al, ev, dB, xB]; omega
    ·split
     ·rename_i he
      have : x = y := by rw [← hx, ← hy, aG he]
      simp [al, ev, dB, xB, this]
     ·simp only [al, LC, ev, dB, xB]; rw [← hx, ← hy]; rfl
 all_goals cases h
def Env.wk (ρ : Env) (k : Nat → Option Loop) : Env := { ρ with k := k }
theorem jv (ρ : Env) (k : Nat → Option Loop) (e : E) : ev (ρ.wk k) e = ev ρ e := by
 induction e <;> simp_all [ev, Env.wk]
theorem gn (ρ : Env) (k : Nat → Option Loop) (e : E) : aa (ρ.wk k) e = aa ρ e := by unfold aa; rw [jv]
theorem qv (ρ : Env) (k : Nat → Option Loop) (e : E) : al (ρ.wk k) e = al ρ e := by unfold al; rw [jv]
theorem kX (ρ : Env) (k : Nat → Option Loop) (e : E) : aU (ρ.wk k) e = aU ρ e := by unfold aU; rw [jv]
theorem EJ (ρ : Env) (k : Nat → Option Loop) (e : E) : sB (ρ.wk k) e ↔ sB ρ e := by rw [bC, bC, jv]
theorem qw (ρ : Env) (k : Nat → Option Loop) (ls : Ls) : RS (ρ.wk k) ls = RS ρ ls := by
 funext s v
 cases s <;> simp only [RS, gn, qv, jv]
theorem ND (ρ : Env) (k : Nat → Option Loop) (ls : Ls) : RE (ρ.wk k) ls = RE ρ ls := by
 funext s v
 obtain ⟨b, l⟩ := s
 cases b with
 | true => simp only [RE, qw]
 | false =>
  match l with
  | [] => rfl
  | [s] => simp only [RE, qw]
  | _ :: _ :: _ => rfl
theorem AO (ρ : Env) (k : Nat → Option Loop) (ls : Ls) : RV (ρ.wk k) ls = RV ρ ls := by
 funext s v
 cases s <;> simp only [RV, qw, ND]
theorem Jr (ρ : Env) (k : Nat → Option Loop) (ls : Ls) : RT (ρ.wk k) ls = RT ρ ls := by
 funext t v
 simp only [RT, AO, qv]
end Vc
end Go.Proofs.YtpmfkelglmgddaaGreatDoor
namespace Go.Proofs.YtpmfkelglmgddaaGreatDoor
namespace Vc
open Go Go.RowKit
set_option linter.unusedVariables false
inductive Sk where
 | int (k : IntKind) (lo hi : Int) | bool | p8 | str (hi : Int)
 deriving DecidableEq, Inhabited
inductive HK where
 | cells (cs : List SC)
 | row (sh : List Sk) (R n : E) (hi : Int)
 | grow (sz : Nat) (cs : List SC)
 | dead
 | mark
 | bW (st : LoopState) (pd : Option (Option Nat))
 | iter (s p : E) (hi : Int)
 | lb (R n : E) (hi : Int)
 | lg (l : Nat) (hole : Option E)
 | mS (K : Nat) (Q : E) (s : Sk) (hi : Int)
 | abs (t : Nat) (lo : List Nat) (A : E)
 deriving Inhabited
structure HE where
 wr : Bool
 ty : TypeId
 k : HK
 deriving Inhabited
abbrev SH := List HE
def iR : Sk → Y → Value
 | .int k _ _, y => .int k y.i
 | .bool, y => .bool y.b
 | .p8, y => y.v
 | .str _, y => y.v
def dM : Sk → Y → Prop
 | .int _ lo hi, y => lo ≤ y.i ∧ y.i ≤ hi
 | .bool, _ => True
 | .p8, y => y.v.oneCell' = true
 | .str hi, y => ∃ s : ByteArray, y.v = .string s ∧ y.i = s.size ∧ (s.size : Int) ≤ hi
def gk : List Sk → (Int → Y) → Int → List Value
 | [], _, _ => []
 | s :: r, f, j => iR s (f j) :: gk r f (j + 1)
def oF : List Sk → (Int → Y) → Int → Prop
 | [], _, _ => True
 | s :: r, f, j => dM s (f j) ∧ oF r f (j + 1)
def aO (sh : List Sk) (R : Int → Int → Y) : Nat → List Value
 | 0 => []
 | n + 1 => aO sh R n ++ gk sh (R n) 0
def au (sh : List Sk) (R : Int → Int → Y) (n : Nat) : Prop := ∀ i : Nat, i < n → oF sh (R i) 0
theorem AP : ∀ (sh : List Sk) (f : Int → Y) (j : Int), (gk sh f j).length = sh.length
 | [], _, _ => rfl
 | _ :: r, f, j => by simp [gk, AP r f (j + 1)]
theorem jZ : ∀ (sh : List Sk) (f : Int → Y) (j : Int) (k : Nat), (gk sh f j)[k]? = (sh[k]?).map fun s => iR s (f (j + k))
 | [], _, _, _ => by simp [gk]
 | s :: r, f, j, 0 => by simp [gk]
 | s :: r, f, j, k + 1 => by
  simp only [gk, List.getElem?_cons_succ]
  rw [jZ r f (j + 1) k]
  congr 1
  funext s
  congr 2
  omega
theorem gK : ∀ {sh : List Sk} {f : Int → Y} {j : Int}, oF sh f j → ∀ {k : Nat} {s : Sk}, sh[k]? = some s → dM s (f (j + k))
 | s :: r, f, j, h, 0, s', hk => by simp at hk; subst hk; simpa using h.1
 | s :: r, f, j, h, k + 1, s', hk => by
  simp at hk
  have := gK h.2 hk
  have e : j + 1 + (k : Int) = j + ((k + 1 : Nat) : Int) := by omega
  rwa [e] at this
theorem iy : ∀ {sh : List Sk} {f : Int → Y} {j : Int}, (∀ (k : Nat) (s : Sk), sh[k]? = some s → dM s (f (j + k))) → oF sh f j
 | [], _, _, _ => trivial
 | s :: r, f, j, h => ⟨by simpa using h 0 s (by simp), iy fun k s' hk => by
  have := h (k + 1) s' (by simpa using hk)
  have e : j + 1 + (k : Int) = j + ((k + 1 : Nat) : Int) := by omega
  rw [e]; exact this⟩
theorem a7 (sh : List Sk) (R : Int → Int → Y) : ∀ n, (aO sh R n).length = n * sh.length
 | 0 => by simp [aO]
 | n + 1 => by simp [aO, a7 sh R n, AP, Nat.add_mul]
theorem cT {sh : List Sk} {R : Int → Int → Y} : ∀ {n i j : Nat} {s : Sk}, i < n → sh[j]? = some s → (aO sh R n)[i * sh.length + j]? = some (iR s (R i j))
 | n + 1, i, j, s, hi, hj => by
  have hjl : j < sh.length := (List.getElem?_eq_some_iff.1 hj).1
  rw [aO, List.getElem?_append]
  split
  ·rename_i hlt
   rw [a7] at hlt
   have : i < n := by
    rcases Nat.lt_or_ge i n with h | h
    ·exact h
    ·have := Nat.mul_le_mul_right sh.length h; omega
   exact cT this hj
  ·rename_i hge
   rw [a7] at hge ⊢
   have : i = n := by
    rcases Nat.lt_or_ge i n with h | h
    ·have := Nat.mul_le_mul_right sh.length (show i + 1 ≤ n from h)
     rw [Nat.add_mul] at this; omega
    ·omega
   subst this
   rw [jZ, show i * sh.length + j - i * sh.length = j by omega, hj]
   simp
theorem bQ {sh : List Sk} {R S : Int → Int → Y} : ∀ {n : Nat}, (∀ i : Nat, i < n → gk sh (R i) 0 = gk sh (S i) 0) → aO sh R n = aO sh S n
 | 0, _ => rfl
 | n + 1, h => by rw [aO, aO, bQ fun i hi => h i (by omega), h n (by omega)]
theorem tk : ∀ {sh : List Sk} {f g : Int → Y} {j : Int}, (∀ k : Nat, k < sh.length → f (j + k) = g (j + k)) → gk sh f j = gk sh g j
 | [], _, _, _, _ => rfl
 | s :: r, f, g, j, h => by
  have h0 := h 0 (by simp)
  simp at h0
  have h1 : gk r f (j + 1) = gk r g (j + 1) := tk fun k hk => by
   have := h (k + 1) (by simpa using hk)
   have e : j + 1 + (k : Int) = j + ((k + 1 : Nat) : Int) := by omega
   rw [e]; exact this
  rw [gk, gk, h0, h1]
theorem ma {sh : List Sk} {R : Int → Int → Y} {n : Nat} {l : List Value} (hl : l.length = n * sh.length) (h : ∀ (i j : Nat) (s : Sk), i < n → sh[j]? = some s → l[i * sh.length + j]? = some (iR s (R i j))) : l = aO sh R n := by
 apply List.ext_getElem?
 intro k
 by_cases hk : k < n * sh.length
 ·have hpos : 0 < sh.length := by
   rcases Nat.eq_zero_or_pos sh.length with h0 | h0
   ·rw [h0] at hk; simp at hk
   ·exact h0
  have hi : k / sh.length < n := Nat.div_lt_of_lt_mul (by rw [Nat.mul_comm]; exact hk)
  have hj : k % sh.length < sh.length := Nat.mod_lt _ hpos
  have e : k / sh.length * sh.length + k % sh.length = k := Nat.div_add_mod' k sh.length
  have hs : sh[k % sh.length]? = some sh[k % sh.length] := List.getElem?_eq_getElem hj
  have h1 := h _ _ _ hi hs
  have h2 := cT (R := R) hi hs
  rw [e] at h1 h2
  rw [h1, h2]
 ·rw [List.getElem?_eq_none (by omega), List.getElem?_eq_none (by rw [a7]; omega)]
theorem eK.of {v : Value} {b : Nat} (h : eK (some v) b) (hv : ∀ vs, v ≠ .agg vs) : bU (some v) = some b := by
 rcases h with h | ⟨vs, _, _, _, _, e, _⟩
 ·exact h
 ·exact (hv vs (Option.some.inj e)).elim
theorem eK.ptr {a : Addr} {b : Nat} (h : eK (some (.pointer (some a))) b) : a.block = b := Option.some.inj (h.of fun _ e => by cases e)
theorem eK.sl {A : Option Addr} {n c b : Nat} (h : eK (some (.slice A n c)) b) : bU (some (.slice A n c)) = some b := h.of fun _ e => by cases e
theorem eK.mS {vs : Array Value} {b : Nat} (h : eK (some (.agg vs)) b) : ∃ (j : Nat) (a : Addr) (n c : Nat), vs[j]? = some (.slice (some a) n c) ∧ a.block = b := by
 rcases h with h | ⟨_, j, a, n, c, e, h1, h2⟩
 ·cases h
 ·cases e; exact ⟨j, a, n, c, h1, h2⟩
def H0 (s : Sk) (Q : Int → Int → Y) (j n : Nat) : List Value := (List.range n).map fun (k : Nat) => iR s (Q j k)
def ll : Option (Option Nat) → Option Code
 | none => none
 | some none => some .ret
 | some (some id) => some (.exit id)
def aT (ρ : Env) (B : Nat) (w : World) (ls : Ls) (i : Nat) (h : HE) : Prop :=
 match h.k with
 | .dead => True
 | .cells cs => ∃ a vs, ls[i]? = some (.pointer (some a)) ∧ ai (RS ρ ls) cs vs ∧ (∀ j v, vs[j]? = some v → w.cell? (a.add j) = some v) ∧
  (h.wr = true → ∃ b, a = ⟨b, 0, none⟩ ∧ B ≤ b ∧ w.heap[b]? = some (.cells vs.toArray h.ty (0, 0))) ∧ (h.wr = false → a.block < w.heap.size)
 | .row sh R n hi => ∃ A c, ls[i]? = some (.slice A (aa ρ n).toNat c) ∧ 0 ≤ aa ρ n ∧ aa ρ n ≤ hi ∧ (aa ρ n).toNat ≤ c ∧ 0 < sh.length ∧ au sh (aU ρ R) (aa ρ n).toNat ∧
  (h.wr = true → w.ownsRow B h.ty sh.length (.slice A (aa ρ n).toNat c) (aa ρ n).toNat (aO sh (aU ρ R) (aa ρ n).toNat)) ∧
  (h.wr = false → 0 < (aa ρ n).toNat → ∃ a, A = some a ∧ ∀ j v, (aO sh (aU ρ R) (aa ρ n).toNat)[j]? = some v → w.cell? (a.add j) = some v)
 | .grow sz cs => h.wr = true ∧ 0 < sz ∧ ∃ A n c vs, ls[i]? = some (.slice A n c) ∧ vs.length = n * sz ∧ ai (RS ρ ls) cs vs ∧ w.ownsRow B h.ty sz (.slice A n c) n vs
 | .mark => h.wr = true ∧ ∃ D, ls[i]? = some (.pointer (some ⟨D, 0, none⟩)) ∧ B ≤ D ∧ w.heap[D]? = some (.deferred (some []))
 | .bW st pd => h.wr = true ∧ ∃ L r, ls[i]? = some (.pointer (some ⟨L, 0, none⟩)) ∧ ρ.k i = some r ∧ B ≤ L ∧ w.heap[L]? = some (.loop { r with state := st, pending := ll pd })
 | .iter s p hi => h.wr = true ∧ ∃ L str, ls[i]? = some (.pointer (some ⟨L, 0, none⟩)) ∧ B ≤ L ∧ w.heap[L]? = some (.stringIter str (aa ρ p).toNat) ∧ (ev ρ s).x.v = .string str ∧ aa ρ s = str.size ∧ 0 ≤ aa ρ p ∧ aa ρ p ≤ str.size ∧ (str.size : Int) ≤ hi
 | .lb R n hi => h.wr = true ∧ ∃ L es clock, ls[i]? = some (.pointer (some ⟨L, 0, none⟩)) ∧ B ≤ L ∧ w.heap[L]? = some (.map es clock) ∧ 0 ≤ aa ρ n ∧ aa ρ n ≤ hi ∧ es.size = (aa ρ n).toNat ∧
  ∀ (j : Nat) (e : MapEntry), es[j]? = some e → e.val = .bool true ∧ ∃ str, e.key = .string str ∧ (aU ρ R j 0).v = .string str
 | .lg l hole => h.wr = true ∧ ∃ (L : Nat) (vs cs : Array Value), ls[i]? = some (.pointer (some ⟨L, 0, none⟩)) ∧ ls[l]? = some (.agg vs) ∧ B ≤ L ∧ w.heap[L]? = some (.cells cs h.ty (0, 0)) ∧ cs.size = vs.size ∧
  ∀ j : Nat, (∀ e, hole = some e → (aa ρ e).toNat ≠ j) → cs[j]? = vs[j]?
 | .mS K Q s hi => h.wr = true ∧ ∃ vs : Array Value, ls[i]? = some (.agg vs) ∧ vs.size = K ∧ (∀ j : Nat, j < K → ∃ (A : Option Addr) (n c : Nat), vs[j]? = some (.slice A n c) ∧ (aU ρ Q j (-1)).i = n ∧ (n : Int) ≤ hi ∧ (∀ k : Nat, k < n → dM s (aU ρ Q j k)) ∧ w.ownsRow B h.ty 1 (.slice A n c) n (H0 s (aU ρ Q) j n)) ∧
  ∀ (j j' : Nat) (u u' : Value) (b : Nat), vs[j]? = some u → vs[j']? = some u' → bU (some u) = some b → bU (some u') = some b → j = j'
 | .abs t lo A => ∃ v vs, ls[i]? = some v ∧ ai (fun l u => ls[l]? = some u) lo vs ∧ nn ρ.o t h.wr B w v vs (ev ρ A).l
def HE.rd (h : HE) : Bool := match h.k with | .dead => false | _ => true
def HE.live (h : HE) : Bool := h.wr && h.rd
def bn (ρ : Env) (ls : Ls) (i : Nat) (x : HE) (b : Nat) : Prop := eK ls[i]? b ∧ x.rd = true ∧ (x.wr = false → match x.k with | .row _ _ n _ => 0 < (aa ρ n).toNat | _ => True)
theorem bn.ik {ρ : Env} {ls : Ls} {i : Nat} {x : HE} {b : Nat} (h : x.live = true) (hb : eK ls[i]? b) : bn ρ ls i x b := by
 simp only [HE.live, Bool.and_eq_true] at h
 exact ⟨hb, h.2, fun e => by rw [h.1] at e; cases e⟩
theorem bn.at {ρ : Env} {ls ls' : Ls} {i : Nat} {x : HE} {b : Nat} (h : bn ρ ls i x b) (e : ls'[i]? = ls[i]?) : bn ρ ls' i x b := ⟨by rw [e]; exact h.1, h.2⟩
def cE (gs : List (Nat × List Value)) (B : Nat) (w : World) : Prop := ∀ x ∈ gs, x.1 < B ∧ ∀ j v, x.2[j]? = some v → w.cell? ⟨x.1, j, none⟩ = some v
theorem cE.kept {gs : List (Nat × List Value)} {B : Nat} {w w' : World} {row : Option Nat} (h : cE gs B w) (hg : w.grownBy w' row) (hB : ∀ k, row = some k → B ≤ k) : cE gs B w' := fun x hx =>
 ⟨(h x hx).1, fun j v hv => hg.cell ((h x hx).2 j v hv) (fun e => by have h1 : B ≤ x.1 := hB _ e.symm; have h2 := (h x hx).1; omega)⟩
structure aB (ρ : Env) (B : Nat) (w0 : World) (ls : Ls) (hp : SH) (w : World) : Prop where
 below : Below B w0 w
 base : B = w0.heap.size
 len : ls.length = hp.length
 cS : cE ρ.g B w
 bA : ∀ (i : Nat) (h : HE), hp[i]? = some h → aT ρ B w ls i h
 inj : ∀ (i j : Nat) (x y : HE) (b : Nat), hp[i]? = some x → hp[j]? = some y → x.live = true → eK ls[i]? b → bn ρ ls j y b → i = j
theorem block_add (a : Addr) (n : Nat) : (a.add n).block = a.block := by unfold Addr.add; split <;> rfl
theorem add_add (a : Addr) (i j : Nat) : (a.add i).add j = a.add (i + j) := by
 unfold Addr.add
 by_cases hi : i = 0 <;> by_cases hj : j = 0 <;> simp [hi, hj, Nat.add_assoc]
section
variable {ρ : Env} {B : Nat} {w0 w w' : World} {ls : Ls} {hp : SH}
theorem aB.size (h : aB ρ B w0 ls hp w) : B ≤ w.heap.size := by rw [h.base]; exact h.below.size
theorem dt {x : HE} (h : ∀ e, x.k = e → e ≠ .dead) : x.rd = true := by
 unfold HE.rd
 split
 ·rename_i e; exact absurd rfl (h _ e)
 ·rfl
theorem wO {w : World} {a : Addr} {v : Value} (h : w.cell? a = some v) : a.block < w.heap.size := by
 unfold World.cell? at h
 rcases Nat.lt_or_ge a.block w.heap.size with h1 | h1
 ·exact h1
 ·rw [Array.getElem?_eq_none h1] at h
  simp at h
theorem EK {sh : List Sk} {R : Int → Int → Y} {n : Nat} (hn : 0 < n) (hs : 0 < sh.length) : ∃ v, (aO sh R n)[0]? = some v := by
 have : 0 < (aO sh R n).length := by rw [a7]; exact Nat.mul_pos hn hs
 exact ⟨_, List.getElem?_eq_getElem this⟩
theorem aT.kept {i : Nat} {x : HE} {row : Option Nat} (h : aT ρ B w ls i x) (hg : w.grownBy w' row) (hB : ∀ k, row = some k → B ≤ k) (hne : ∀ b, bn ρ ls i x b → row ≠ some b) : aT ρ B w' ls i x := by
 have h0 := h
 unfold aT at h ⊢
 have hcell : ∀ {a : Addr} {v : Value}, row ≠ some a.block → w.cell? a = some v → w'.cell? a = some v := fun hb hc =>
  hg.cell hc (fun e => hb e.symm)
 split at h
 ·trivial
 ·rename_i cs hk
  obtain ⟨a, vs, h1, h2, h3, h4, h5⟩ := h
  have hrd : x.rd = true := dt fun e he => by rw [hk] at he; subst he; simp
  have hb : row ≠ some a.block := hne _ ⟨.inl (by rw [h1]; rfl), hrd, fun _ => by rw [hk]; trivial⟩
  refine ⟨a, vs, h1, h2, fun j v hv => hcell (by rw [block_add]; exact hb) (h3 j v hv), fun hw => ?_, fun hw => Nat.lt_of_lt_of_le (h5 hw) hg.size⟩
  obtain ⟨b, rfl, hB', hh⟩ := h4 hw
  exact ⟨b, rfl, hB', by rw [hg.block b (Array.getElem?_eq_some_iff.1 hh).1 (fun e => hb e.symm)]; exact hh⟩
 ·rename_i sh R n hi hk
  obtain ⟨A, c, h1, h2, h3, h4, h5, h6, h7, h8⟩ := h
  have hrd : x.rd = true := dt fun e he => by rw [hk] at he; subst he; simp
  refine ⟨A, c, h1, h2, h3, h4, h5, h6, fun hw => (h7 hw).kept hg ?_, fun hw hn => ?_⟩
  ·cases hA : A with
   | none => exact .inl (by simp [Value.ownBlock])
   | some a =>
    refine .inr ?_
    have := hne a.block ⟨.inl (by rw [h1, hA]; rfl), hrd, fun e => by rw [hw] at e; cases e⟩
    simpa [Value.ownBlock] using fun e => this e.symm
  ·obtain ⟨a, e1, e3⟩ := h8 hw hn
   have := hne a.block ⟨.inl (by rw [h1, e1]; rfl), hrd, fun _ => by rw [hk]; exact hn⟩
   exact ⟨a, e1, fun j v hv => hcell (by rw [block_add]; exact this) (e3 j v hv)⟩
 ·rename_i sz cs hk
  obtain ⟨hw, h0', A, n, c, vs, h1, h2, h3, h4⟩ := h
  have hrd : x.rd = true := dt fun e he => by rw [hk] at he; subst he; simp
  refine ⟨hw, h0', A, n, c, vs, h1, h2, h3, h4.kept hg ?_⟩
  cases hA : A with
  | none => exact .inl (by simp [Value.ownBlock])
  | some a =>
   refine .inr ?_
   have := hne a.block ⟨.inl (by rw [h1, hA]; rfl), hrd, fun e => by rw [hw] at e; cases e⟩
   simpa [Value.ownBlock] using fun e => this e.symm
 ·rename_i hk
  obtain ⟨hw, D, h1, h2, h3⟩ := h
  have hrd : x.rd = true := dt fun e he => by rw [hk] at he; subst he; simp
  have := hne D ⟨.inl (by rw [h1]; rfl), hrd, fun e => by rw [hw] at e; cases e⟩
  exact ⟨hw, D, h1, h2, by rw [hg.block D (Array.getElem?_eq_some_iff.1 h3).1 (fun e => this e.symm)]; exact h3⟩
 ·rename_i st pd hk
  obtain ⟨hw, L, r, h1, h2, h3, h4⟩ := h
  have hrd : x.rd = true := dt fun e he => by rw [hk] at he; subst he; simp
  have := hne L ⟨.inl (by rw [h1]; rfl), hrd, fun e => by rw [hw] at e; cases e⟩
  exact ⟨hw, L, r, h1, h2, h3, by rw [hg.block L (Array.getElem?_eq_some_iff.1 h4).1 (fun e => this e.symm)]; exact h4⟩
 ·rename_i s p hi hk
  obtain ⟨hw, L, str, h1, h2, h3, h4⟩ := h
  have hrd : x.rd = true := dt fun e he => by rw [hk] at he; subst he; simp
  have := hne L ⟨.inl (by rw [h1]; rfl), hrd, fun e => by rw [hw] at e; cases e⟩
  have hk2 : w'.heap[L]? = w.heap[L]? := hg.block L (Array.getElem?_eq_some_iff.1 h3).1 (fun e => this e.symm)
  exact ⟨hw, L, str, h1, h2, hk2.trans h3, h4⟩
 ·rename_i R n hi hk
  obtain ⟨hw, L, es, clock, h1, h2, h3, h4⟩ := h
  have hrd : x.rd = true := dt fun e he => by rw [hk] at he; subst he; simp
  have := hne L ⟨.inl (by rw [h1]; rfl), hrd, fun e => by rw [hw] at e; cases e⟩
  have hk2 : w'.heap[L]? = w.heap[L]? := hg.block L (Array.getElem?_eq_some_iff.1 h3).1 (fun e => this e.symm)
  exact ⟨hw, L, es, clock, h1, h2, hk2.trans h3, h4⟩
 ·rename_i l hole hk
  obtain ⟨hw, L, vs, cs, h1, h0, h2, h3, h4⟩ := h
  have hrd : x.rd = true := dt fun e he => by rw [hk] at he; subst he; simp
  have := hne L ⟨.inl (by rw [h1]; rfl), hrd, fun e => by rw [hw] at e; cases e⟩
  have hk2 : w'.heap[L]? = w.heap[L]? := hg.block L (Array.getElem?_eq_some_iff.1 h3).1 (fun e => this e.symm)
  exact ⟨hw, L, vs, cs, h1, h0, h2, hk2.trans h3, h4⟩
 ·rename_i K Q s hi hk
  obtain ⟨hw, vs, h1, h2, h3, h4⟩ := h
  have hrd : x.rd = true := dt fun e he => by rw [hk] at he; subst he; simp
  refine ⟨hw, vs, h1, h2, fun j hj => ?_, h4⟩
  obtain ⟨A, n, c, q1, q2, q3, q4, q5⟩ := h3 j hj
  refine ⟨A, n, c, q1, q2, q3, q4, q5.kept hg ?_⟩
  cases hA : A with
  | none => exact .inl (by simp [Value.ownBlock])
  | some a =>
   refine .inr ?_
   have := hne a.block ⟨.inr ⟨vs, j, a, n, c, h1, by rw [q1, hA], rfl⟩, hrd, fun e => by rw [hw] at e; cases e⟩
   simpa [Value.ownBlock] using fun e => this e.symm
 ·rename_i t lo A hk
  obtain ⟨v, vs, h1, h2, h3⟩ := h
  have hrd : x.rd = true := dt fun e he => by rw [hk] at he; subst he; simp
  exact ⟨v, vs, h1, h2, th h3 hg hB fun b hb => hne b ⟨by rw [h1]; exact hb, hrd, fun _ => by rw [hk]; trivial⟩⟩
theorem aN (hb : Below w.heap.size w w') (row : Option Nat) : w.grownBy w' row := ⟨hb.os, hb.tape, hb.output, hb.size, fun k hk _ => hb.block k hk⟩
theorem aB.calls (h : aB ρ B w0 ls hp w) (hb : Below w.heap.size w w') : aB ρ B w0 ls hp w' where
 below := h.below.trans (hb.mono h.size)
 base := h.base
 len := h.len
 cS := h.cS.kept (aN hb none) (fun k e => by cases e)
 bA := fun i x hx => (h.bA i x hx).kept (aN hb none) (fun k e => by cases e) (fun _ _ e => by cases e)
 inj := h.inj
theorem aT.drawn {i : Nat} {x : HE} (h : aT ρ B w ls i x) (n : Nat) : aT ρ B { w with drawn := n } ls i x := by
 unfold aT at *
 split at h
 case h_11 =>
  obtain ⟨v, vs, h1, h2, h3⟩ := h
  exact ⟨v, vs, h1, h2, th h3 (row := none) ⟨rfl, rfl, rfl, Nat.le_refl _, fun _ _ _ => rfl⟩ (fun _ e => by cases e) (fun _ _ e => by cases e)⟩
 all_goals exact h
theorem aB.drawn (h : aB ρ B w0 ls hp w) (n : Nat) : aB ρ B w0 ls hp { w with drawn := n } where
 below := ⟨h.below.os, h.below.tape, h.below.output, h.below.size, h.below.block⟩
 base := h.base
 len := h.len
 cS := h.cS
 bA := fun i x hx => (h.bA i x hx).drawn n
 inj := h.inj
theorem aT.ext {ls' : Ls} (he : Ext ls ls') {i : Nat} {x : HE} (h : aT ρ B w ls i x) : aT ρ B w ls' i x := by
 unfold aT at *
 split at h
 ·trivial
 ·obtain ⟨a, vs, h1, h2, h3⟩ := h; exact ⟨a, vs, he _ _ h1, h2.mono fun _ _ => RS.ext he, h3⟩
 ·obtain ⟨A, c, h1, h2⟩ := h; exact ⟨A, c, he _ _ h1, h2⟩
 ·obtain ⟨hw, h0, A, n, c, vs, h1, h2, h3, h4⟩ := h; exact ⟨hw, h0, A, n, c, vs, he _ _ h1, h2, h3.mono fun _ _ => RS.ext he, h4⟩
 ·obtain ⟨hw, D, h1, h2⟩ := h; exact ⟨hw, D, he _ _ h1, h2⟩
 ·obtain ⟨hw, L, r, h1, h2⟩ := h; exact ⟨hw, L, r, he _ _ h1, h2⟩
 ·obtain ⟨hw, L, str, h1, h2⟩ := h; exact ⟨hw, L, str, he _ _ h1, h2⟩
 ·obtain ⟨hw, L, es, clock, h1, h2⟩ := h; exact ⟨hw, L, es, clock, he _ _ h1, h2⟩
 ·obtain ⟨hw, L, vs, cs, h1, h0, h2⟩ := h; exact ⟨hw, L, vs, cs, he _ _ h1, he _ _ h0, h2⟩
 ·obtain ⟨hw, vs, h1, h2⟩ := h; exact ⟨hw, vs, he _ _ h1, h2⟩
 ·obtain ⟨v, vs, h1, h2, h3⟩ := h; exact ⟨v, vs, he _ _ h1, h2.mono fun _ _ => he _ _, h3⟩
theorem gL {i : Nat} {x : HE} {b : Nat} (h : aT ρ B w ls i x) (hl : x.live = true) (hb : eK ls[i]? b) : B ≤ b ∧ b < w.heap.size := by
 simp only [HE.live, Bool.and_eq_true] at hl
 obtain ⟨hw, hk⟩ := hl
 unfold aT at h
 split at h
 ·rename_i e; rw [HE.rd, e] at hk; cases hk
 ·obtain ⟨a, vs, h1, _, _, h4, _⟩ := h
  obtain ⟨b', rfl, hB, hh⟩ := h4 hw
  rw [h1] at hb
  cases hb.ptr
  exact ⟨hB, (Array.getElem?_eq_some_iff.1 hh).1⟩
 ·obtain ⟨A, c, h1, _, _, _, _, _, h7, _⟩ := h
  rw [h1] at hb
  cases A with
  | none => cases hb.sl
  | some a => cases hb.sl; exact (h7 hw).lt _ rfl
 ·obtain ⟨_, _, A, n, c, vs, h1, _, _, h4⟩ := h
  rw [h1] at hb
  cases A with
  | none => cases hb.sl
  | some a => cases hb.sl; exact h4.lt _ rfl
 ·obtain ⟨_, D, h1, h2, h3⟩ := h
  rw [h1] at hb; cases hb.ptr
  exact ⟨h2, (Array.getElem?_eq_some_iff.1 h3).1⟩
 ·obtain ⟨_, L, r, h1, _, h2, h3⟩ := h
  rw [h1] at hb; cases hb.ptr
  exact ⟨h2, (Array.getElem?_eq_some_iff.1 h3).1⟩
 ·obtain ⟨_, L, _, h1, h2, h3, _⟩ := h
  rw [h1] at hb; cases hb.ptr
  exact ⟨h2, (Array.getElem?_eq_some_iff.1 h3).1⟩
 ·obtain ⟨_, L, _, _, h1, h2, h3, _⟩ := h
  rw [h1] at hb; cases hb.ptr
  exact ⟨h2, (Array.getElem?_eq_some_iff.1 h3).1⟩
 ·obtain ⟨_, L, _, _, h1, _, h2, h3, _⟩ := h
  rw [h1] at hb; cases hb.ptr
  exact ⟨h2, (Array.getElem?_eq_some_iff.1 h3).1⟩
 ·obtain ⟨_, vs, h1, h2, h3, _⟩ := h
  rw [h1] at hb
  obtain ⟨j, a, n, c, q1, rfl⟩ := hb.mS
  have hj : j < vs.size := (Array.getElem?_eq_some_iff.1 q1).1
  obtain ⟨A, n', c', p1, _, _, _, p5⟩ := h3 j (by omega)
  rw [q1] at p1
  cases p1
  exact p5.lt _ rfl
 ·obtain ⟨v, vs, h1, _, h3⟩ := h
  rw [h1] at hb
  rw [hw] at h3
  exact Ca h3 hb
theorem fN {i : Nat} {x : HE} {b : Nat} (hBw : B ≤ w.heap.size) (h : aT ρ B w ls i x) (hr : bn ρ ls i x b) : b < w.heap.size := by
 cases hw : x.wr
 ·obtain ⟨hb, hrd, hn⟩ := hr
  have hn := hn hw
  unfold aT at h
  split at h
  ·rename_i e; rw [HE.rd, e] at hrd; cases hrd
  ·obtain ⟨a, vs, h1, _, _, _, h5⟩ := h
   have := h5 hw
   rw [h1] at hb; cases hb.ptr
   exact this
  ·rename_i sh R n hi hk
   obtain ⟨A, c, h1, _, _, _, h5, _, _, h8⟩ := h
   rw [hk] at hn
   obtain ⟨a, e1, e2⟩ := h8 hw hn
   rw [h1, e1] at hb; cases hb.sl
   obtain ⟨v, hv⟩ := EK (R := aU ρ R) hn h5
   have := wO (e2 _ _ hv)
   rwa [block_add] at this
  case h_11 =>
   obtain ⟨v, vs, h1, _, h3⟩ := h
   rw [h1] at hb
   exact AL h3 hb
  all_goals (rw [h.1] at hw; cases hw)
 ·exact (gL h (by simp [HE.live, hw, hr.2.1]) hr.1).2
theorem aB.push (h : aB ρ B w0 ls hp w) (hg : w.grownBy w' none) {v : Value} {x : HE} (hx : aT ρ B w' (ls ++ [v]) ls.length x) (hv : ∀ b, eK (some v) b → w.heap.size ≤ b) : aB ρ B w0 (ls ++ [v]) (hp ++ [x]) w' where
 below := h.below.grown hg h.size (fun k e => by cases e)
 base := h.base
 len := by simp [h.len]
 cS := h.cS.kept hg (fun k e => by cases e)
 bA := fun i y hy => by
  rw [List.getElem?_append] at hy
  split at hy
  ·exact ((h.bA i y hy).kept hg (fun k e => by cases e) (fun _ _ e => by cases e)).ext (Ext.snoc ls v)
  ·rename_i hlt
   have hi : i = hp.length := by
    cases hk : i - hp.length with
    | zero => omega
    | succ n => simp [hk] at hy
   subst hi
   simp at hy
   subst hy
   rw [← h.len]; exact hx
 inj := fun i j y z b hy hz ly bi bj => by
  have jW : ∀ {i : Nat}, i < hp.length → (ls ++ [v])[i]? = ls[i]? := fun {i} hi => by
   rw [List.getElem?_append_left (by rw [h.len]; exact hi)]
  have new : ∀ {i : Nat} {y : HE}, (hp ++ [x])[i]? = some y → ¬ i < hp.length → i = ls.length ∧ (ls ++ [v])[i]? = some v := fun {i y} hy hn => by
   have : i < (hp ++ [x]).length := (List.getElem?_eq_some_iff.1 hy).1
   simp at this
   have e : i = ls.length := by rw [h.len]; omega
   subst e; exact ⟨rfl, by simp⟩
  by_cases hi : i < hp.length <;> by_cases hj : j < hp.length
  ·rw [List.getElem?_append_left hi] at hy
   rw [List.getElem?_append_left hj] at hz
   rw [jW hi] at bi
   exact h.inj i j y z b hy hz ly bi (bj.at (jW hj).symm)
  ·obtain ⟨e1, e2⟩ := new hz hj
   rw [List.getElem?_append_left hi] at hy
   rw [jW hi] at bi
   have bj := bj.1
   rw [e2] at bj
   have := (gL (h.bA i y hy) ly bi).2
   have := hv b bj
   omega
  ·obtain ⟨e1, e2⟩ := new hy hi
   rw [List.getElem?_append_left hj] at hz
   rw [e2] at bi
   have := fN h.size (h.bA j z hz) (bj.at (jW hj).symm)
   have := hv b bi
   omega
  ·rw [(new hy hi).1, (new hz hj).1]
theorem aB.join (h : aB ρ B w0 ls hp w) {v : Value} {x : HE} (hx : aT ρ B w (ls ++ [v]) ls.length x) (h1 : x.live = true → ∀ b, eK (some v) b → ∀ (j : Nat) (y : HE), hp[j]? = some y → ¬ bn ρ ls j y b)
 (h2 : ∀ b, bn ρ (ls ++ [v]) ls.length x b → ∀ (i : Nat) (y : HE), hp[i]? = some y → y.live = true → ¬ eK ls[i]? b) : aB ρ B w0 (ls ++ [v]) (hp ++ [x]) w where
 below := h.below
 base := h.base
 len := by simp [h.len]
 cS := h.cS
 bA := fun i y hy => by
  rw [List.getElem?_append] at hy
  split at hy
  ·exact (h.bA i y hy).ext (Ext.snoc ls v)
  ·rename_i hlt
   have hi : i = hp.length := by
    cases hk : i - hp.length with
    | zero => omega
    | succ n => simp [hk] at hy
   subst hi
   simp at hy
   subst hy
   rw [← h.len]; exact hx
 inj := fun i j y z b hy hz ly bi bj => by
  have jW : ∀ {i : Nat}, i < hp.length → (ls ++ [v])[i]? = ls[i]? := fun {i} hi => by
   rw [List.getElem?_append_left (by rw [h.len]; exact hi)]
  have new : ∀ {i : Nat} {y : HE}, (hp ++ [x])[i]? = some y → ¬ i < hp.length → i = ls.length ∧ (ls ++ [v])[i]? = some v ∧ y = x := fun {i y} hy hn => by
   have : i < (hp ++ [x]).length := (List.getElem?_eq_some_iff.1 hy).1
   simp at this
   have e : i = ls.length := by rw [h.len]; omega
   subst e
   rw [h.len] at hy
   simp at hy
   exact ⟨rfl, by simp, hy.symm⟩
  by_cases hi : i < hp.length <;> by_cases hj : j < hp.length
  ·rw [List.getElem?_append_left hi] at hy
   rw [List.getElem?_append_left hj] at hz
   rw [jW hi] at bi
   exact h.inj i j y z b hy hz ly bi (bj.at (jW hj).symm)
  ·obtain ⟨e1, e2, e3⟩ := new hz hj
   rw [List.getElem?_append_left hi] at hy
   rw [jW hi] at bi
   subst e3
   rw [e1] at bj
   exact (h2 b bj i y hy ly bi).elim
  ·obtain ⟨e1, e2, e3⟩ := new hy hi
   rw [List.getElem?_append_left hj] at hz
   rw [e2] at bi
   subst e3
   exact (h1 ly b bi j z hz (bj.at (jW hj).symm)).elim
  ·rw [(new hy hi).1, (new hz hj).1]
theorem aB.alloc (h : aB ρ B w0 ls hp w) {ty : TypeId} {cs : List SC} {vs : List Value} (hc : ai (RS ρ ls) cs vs) :
 aB ρ B w0 (ls ++ [.pointer (some ⟨w.heap.size, 0, none⟩)]) (hp ++ [⟨true, ty, .cells cs⟩]) (w.alloc (.cells vs.toArray ty)) := by
 refine h.push (World.grownBy_alloc w _ none) ?_ (fun b e => by cases e.ptr; exact Nat.le_refl _)
 have hh : (w.alloc (.cells vs.toArray ty)).heap[w.heap.size]? = some (.cells vs.toArray ty (0, 0)) := heap_alloc_new w _
 refine ⟨⟨w.heap.size, 0, none⟩, vs, by simp, hc.mono fun _ _ => RS.ext (Ext.snoc ls _), fun j v hv => ?_, fun _ => ⟨_, rfl, h.size, hh⟩, fun e => by cases e⟩
 rw [Addr.add_lit, cell_of_row _ _ _ _ _ _ hh]; simpa using hv
theorem aB.lY (h : aB ρ B w0 ls hp w) {l : Nat} {x x' : HE} {row : Option Nat} (hl : hp[l]? = some x) (hlive : x.live = true) (hg : w.grownBy w' row) (hrow : row = none ∨ ∃ b, row = some b ∧ eK ls[l]? b) (hx : aT ρ B w' ls l x') :
 aB ρ B w0 ls (hp.set l x') w' where
 below := h.below.grown hg h.size (fun k e => by
  rcases hrow with e' | ⟨b, e', hb⟩
  ·rw [e] at e'; cases e'
  ·rw [e] at e'; cases e'; exact (gL (h.bA l x hl) hlive hb).1)
 base := h.base
 len := by rw [List.length_set]; exact h.len
 cS := h.cS.kept hg (fun k e => by
  rcases hrow with e' | ⟨b, e', hb⟩
  ·rw [e] at e'; cases e'
  ·rw [e] at e'; cases e'; exact (gL (h.bA l x hl) hlive hb).1)
 bA := fun i y hy => by
  have hll : l < hp.length := (List.getElem?_eq_some_iff.1 hl).1
  by_cases hil : i = l
  ·subst hil
   rw [List.getElem?_set_self hll] at hy
   cases hy; exact hx
  ·rw [List.getElem?_set_ne (Ne.symm hil)] at hy
   refine (h.bA i y hy).kept hg (fun k e => ?_) (fun b hb e => ?_)
   ·rcases hrow with e' | ⟨b, e', hb⟩
    ·rw [e] at e'; cases e'
    ·rw [e] at e'; cases e'; exact (gL (h.bA l x hl) hlive hb).1
   ·rcases hrow with e' | ⟨b', e', hb'⟩
    ·rw [e] at e'; cases e'
    ·rw [e] at e'; cases e'
     exact hil (h.inj l i x y b hl hy hlive hb' hb).symm
 inj := fun i j y z b hy hz ly bi bj => by
  have hll : l < hp.length := (List.getElem?_eq_some_iff.1 hl).1
  by_cases hil : i = l
  ·subst hil
   by_cases hjl : j = i
   ·exact hjl.symm
   ·rw [List.getElem?_set_ne (Ne.symm hjl)] at hz
    exact h.inj i j x z b hl hz hlive bi bj
  ·rw [List.getElem?_set_ne (Ne.symm hil)] at hy
   by_cases hjl : j = l
   ·subst hjl
    exact h.inj i j y x b hy hl ly bi (.ik hlive bj.1)
   ·rw [List.getElem?_set_ne (Ne.symm hjl)] at hz
    exact h.inj i j y z b hy hz ly bi bj
theorem aB.fh (h : aB ρ B w0 ls hp w) {l : Nat} {x x' : HE} (hl : hp[l]? = some x) (hx : aT ρ B w ls l x') (h1 : x'.live = true → x.live = true) (h2 : ∀ b, bn ρ ls l x' b → bn ρ ls l x b) : aB ρ B w0 ls (hp.set l x') w where
 below := h.below
 base := h.base
 len := by rw [List.length_set]; exact h.len
 cS := h.cS
 bA := fun i y hy => by
  have hll : l < hp.length := (List.getElem?_eq_some_iff.1 hl).1
  by_cases hil : i = l
  ·subst hil
   rw [List.getElem?_set_self hll] at hy
   cases hy; exact hx
  ·rw [List.getElem?_set_ne (Ne.symm hil)] at hy
   exact h.bA i y hy
 inj := fun i j y z b hy hz ly bi bj => by
  have hll : l < hp.length := (List.getElem?_eq_some_iff.1 hl).1
  have one : ∃ y', hp[i]? = some y' ∧ y'.live = true := by
   by_cases hil : i = l
   ·subst hil
    rw [List.getElem?_set_self hll] at hy
    cases hy
    exact ⟨x, hl, h1 ly⟩
   ·rw [List.getElem?_set_ne (Ne.symm hil)] at hy
    exact ⟨y, hy, ly⟩
  have two : ∃ z', hp[j]? = some z' ∧ bn ρ ls j z' b := by
   by_cases hjl : j = l
   ·subst hjl
    rw [List.getElem?_set_self hll] at hz
    cases hz
    exact ⟨x, hl, h2 b bj⟩
   ·rw [List.getElem?_set_ne (Ne.symm hjl)] at hz
    exact ⟨z, hz, bj⟩
  obtain ⟨y', hy', ly'⟩ := one
  obtain ⟨z', hz', bz'⟩ := two
  exact h.inj i j y' z' b hy' hz' ly' bi bz'
theorem aB.En (h : aB ρ B w0 ls hp w) {l : Nat} {x x' : HE} {v v' : Value} {row : Option Nat} (hl : hp[l]? = some x) (hx : x.live = true) (hv : ls[l]? = some v) (hg : w.grownBy w' row) (hb : ∀ k, row = some k → eK (some v) k) (hat : ∀ b, eK (some v') b → eK (some v) b ∨ w.heap.size ≤ b)
 (hx' : aT ρ B w' (ls ++ [v']) ls.length x') : aB ρ B w0 (ls ++ [v']) (hp.set l ⟨x.wr, x.ty, .dead⟩ ++ [x']) w' := by
 have hll : l < hp.length := (List.getElem?_eq_some_iff.1 hl).1
 have hrow : ∀ k, row = some k → B ≤ k ∧ k < w.heap.size := fun k e => gL (h.bA l x hl) hx (by rw [hv]; exact hb k e)
 have hcase : ∀ {i : Nat} {y : HE}, (hp.set l ⟨x.wr, x.ty, .dead⟩ ++ [x'])[i]? = some y → (i = l ∧ y = ⟨x.wr, x.ty, .dead⟩) ∨ (i ≠ l ∧ i < hp.length ∧ hp[i]? = some y ∧ (ls ++ [v'])[i]? = ls[i]?) ∨ (i = ls.length ∧ y = x' ∧ (ls ++ [v'])[i]? = some v') := fun {i y} hy => by
  by_cases hi : i < hp.length
  ·rw [List.getElem?_append_left (by rw [List.length_set]; exact hi)] at hy
   by_cases hil : i = l
   ·subst hil
    rw [List.getElem?_set_self hll] at hy
    cases hy; exact .inl ⟨rfl, rfl⟩
   ·rw [List.getElem?_set_ne (Ne.symm hil)] at hy
    exact .inr (.inl ⟨hil, hi, hy, List.getElem?_append_left (by rw [h.len]; exact hi)⟩)
  ·have : i < (hp.set l ⟨x.wr, x.ty, .dead⟩ ++ [x']).length := (List.getElem?_eq_some_iff.1 hy).1
   simp at this
   have e : i = ls.length := by rw [h.len]; omega
   subst e
   rw [List.getElem?_append_right (by simp [h.len])] at hy
   simp [h.len] at hy
   exact .inr (.inr ⟨rfl, hy.symm, by simp⟩)
 refine ⟨h.below.grown hg h.size (fun k e => (hrow k e).1), h.base, by simp [h.len], h.cS.kept hg (fun k e => (hrow k e).1), fun i y hy => ?_, fun i j y z b hy hz ly bi bj => ?_⟩
 ·rcases hcase hy with ⟨rfl, rfl⟩ | ⟨hil, hi, hy', _⟩ | ⟨rfl, rfl, _⟩
  ·trivial
  ·refine ((h.bA i y hy').kept hg (fun k e => (hrow k e).1) (fun b hb2 e => ?_)).ext (Ext.snoc ls v')
   exact hil (h.inj l i x y b hl hy' hx (by rw [hv]; exact hb b e) hb2).symm
  ·exact hx'
 ·have dead : ∀ {y : HE}, y = ⟨x.wr, x.ty, .dead⟩ → y.rd = true → False := fun e l => by subst e; simp [HE.rd] at l
  have lrd : ∀ {y : HE}, y.live = true → y.rd = true := fun e => by simp only [HE.live, Bool.and_eq_true] at e; exact e.2
  have jW : ∀ {i : Nat} {y : HE} {b : Nat}, hp[i]? = some y → bn ρ ls i y b → i ≠ l → eK (some v') b → False := fun {i y b} hy hr hil bv => by
   rcases hat b bv with e | e
   ·exact hil (h.inj l i x y b hl hy hx (by rw [hv]; exact e) hr).symm
   ·have := fN h.size (h.bA i y hy) hr
    omega
  rcases hcase hy with ⟨_, e⟩ | ⟨hil, _, hy', ey⟩ | ⟨e1, _, ey⟩
  ·exact (dead e (lrd ly)).elim
  ·rw [ey] at bi
   rcases hcase hz with ⟨_, e⟩ | ⟨hjl, _, hz', ez⟩ | ⟨e2, _, ez⟩
   ·exact (dead e bj.2.1).elim
   ·exact h.inj i j y z b hy' hz' ly bi (bj.at ez.symm)
   ·have bj := bj.1
    rw [ez] at bj
    exact (jW hy' (.ik ly bi) hil bj).elim
  ·rw [ey] at bi
   rcases hcase hz with ⟨_, e⟩ | ⟨hjl, _, hz', ez⟩ | ⟨e2, _, ez⟩
   ·exact (dead e bj.2.1).elim
   ·exact (jW hz' (bj.at ez.symm) hjl bi).elim
   ·rw [e1, e2]
theorem aB.grown (h : aB ρ B w0 ls hp w) {l : Nat} {x x' : HE} {v v' : Value} (hl : hp[l]? = some x) (hx : x.live = true) (hv : ls[l]? = some v) (hg : w.grownBy w' v.ownBlock) (hb : bU (some v) = v.ownBlock) (hb' : bU (some v') = v'.ownBlock) (hat : v'.ownBlock = v.ownBlock ∨ v'.ownBlock = some w.heap.size)
 (hx' : aT ρ B w' (ls ++ [v']) ls.length x') (hna : ∀ vs, v' ≠ .agg vs := by intro vs e; cases e) : aB ρ B w0 (ls ++ [v']) (hp.set l ⟨x.wr, x.ty, .dead⟩ ++ [x']) w' :=
 h.En hl hx hv hg (fun k e => .inl (hb.trans e)) (fun b hbv => by
  have e := hb'.symm.trans (hbv.of hna)
  rcases hat with e' | e'
  ·exact .inl (.inl (hb.trans (e'.symm.trans e)))
  ·rw [e'] at e; cases e; exact .inr (Nat.le_refl _)) hx'
theorem iS (w : World) (b o : Nat) (v : Value) : w.grownBy (w.setCell ⟨b, o, none⟩ v) (some b) :=
 ⟨rfl, rfl, rfl, by simp, fun k _ hk => heap_setCell_other w ⟨b, o, none⟩ k v (fun e => hk (by simp [e]))⟩
theorem aB.set (h : aB ρ B w0 ls hp w) {l o : Nat} {ty : TypeId} {cs : List SC} (hl : hp[l]? = some ⟨true, ty, .cells cs⟩) (ho : o < cs.length)
 {s : SC} {v : Value} (hs : RS ρ ls s v) (h1 : v.oneCell' = true) {a : Addr} (ha : ls[l]? = some (.pointer (some a))) (P : Program) :
 (store (a.add o) v).run P w = .ok () (w.setCell (a.add o) v) ∧ aB ρ B w0 ls (hp.set l ⟨true, ty, .cells (cs.set o s)⟩) (w.setCell (a.add o) v) := by
 obtain ⟨a', vs, e1, e2, e3, e4, _⟩ := h.bA l _ hl
 rw [ha] at e1; cases e1
 obtain ⟨b, rfl, hB, hh⟩ := e4 rfl
 have hlen := e2.len
 rw [Addr.add_lit]
 simp only [Nat.zero_add]
 have hcell : w.cell? ⟨b, o, none⟩ = some (vs[o]'(by omega)) := by
  rw [cell_of_row w b o _ _ _ hh]; simp
 refine ⟨?_, ?_⟩
 ·rw [run_store P w _ v .plain h1, hcell, frozen_of_row w b o _ _ hh]
  rfl
 ·refine h.lY hl rfl (iS w b o v) (.inr ⟨b, rfl, .inl (by rw [ha]; rfl)⟩) ?_
  have hh' : (w.setCell ⟨b, o, none⟩ v).heap[b]? = some (.cells (vs.set o v).toArray ty (0, 0)) := by
   rw [heap_setCell_same w b o _ _ v hh, List.setIfInBounds_toArray]
  refine ⟨⟨b, 0, none⟩, vs.set o v, ha, e2.set o hs, fun j u hu => ?_, fun _ => ⟨b, rfl, hB, hh'⟩, fun e => by cases e⟩
  rw [Addr.add_lit, cell_of_row _ _ _ _ _ _ hh']; simpa using hu
def wP (k : Nat → Option Loop) (l : Nat) (r : Loop) : Nat → Option Loop := fun i => if i = l then some r else k i
theorem aT.wk {i : Nat} {x : HE} {k : Nat → Option Loop} (h : aT ρ B w ls i x) (hk : k i = ρ.k i) : aT (ρ.wk k) B w ls i x := by
 unfold aT at *
 split at h
 ·trivial
 ·rw [qw]; exact h
 ·simp only [gn, kX]; exact h
 ·rw [qw]; exact h
 ·exact h
 ·obtain ⟨hw, L, r, h1, h2, h3⟩ := h
  exact ⟨hw, L, r, h1, hk.trans h2, h3⟩
 ·simp only [jv, gn]; exact h
 ·simp only [gn, kX]; exact h
 ·simp only [gn]; exact h
 ·simp only [kX]; exact h
 ·simp only [jv]; exact h
theorem EL {i : Nat} {x : HE} {b : Nat} {k : Nat → Option Loop} : bn (ρ.wk k) ls i x b ↔ bn ρ ls i x b := by
 unfold bn
 simp only [gn]
theorem aB.wk {k : Nat → Option Loop} (h : aB ρ B w0 ls hp w) (hk : ∀ i, i < hp.length → k i = ρ.k i) : aB (ρ.wk k) B w0 ls hp w where
 below := h.below
 base := h.base
 len := h.len
 cS := h.cS
 bA := fun i x hx => (h.bA i x hx).wk (hk i (List.getElem?_eq_some_iff.1 hx).1)
 inj := fun i j x y b hx hy lx bi bj => h.inj i j x y b hx hy lx bi (EL.1 bj)
end
end Vc
end Go.Proofs.YtpmfkelglmgddaaGreatDoor
