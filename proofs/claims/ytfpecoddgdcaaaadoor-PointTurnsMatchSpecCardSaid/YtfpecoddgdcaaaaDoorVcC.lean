/- The symbolic heap beside the model's: blocks of known cells, and rows of elements of any length. -/
import Derived.Test.YtfpecoddgdcaaaaDoorVcB
import Derived.Deep.Quiet
import Derived.Maps.AppendAt
namespace Go.Proofs.YtfpecoddgdcaaaaDoor
namespace Vc
open Go Go.RowKit

/-- The kind of a cell of a row. -/
inductive Sk where
  | int (k : IntKind) (lo hi : Int) | bool | opq
  deriving DecidableEq, Inhabited
inductive HK where
  | cells (cs : List SC)
  | row (sh : List Sk) (R n : E) (hi : Int)
  | grow (sz : Nat) (cs : List SC)
  | dead
  deriving Inhabited
structure HE where
  wr : Bool
  ty : TypeId
  k : HK
  deriving Inhabited
abbrev SH := List HE

def skV : Sk → Y → Value
  | .int k _ _, y => .int k y.i
  | .bool, y => .bool y.b
  | .opq, y => y.v
def skOk : Sk → Y → Prop
  | .int _ lo hi, y => lo ≤ y.i ∧ y.i ≤ hi
  | .bool, _ => True
  | .opq, y => y.v.oneCell' = true
def elV : List Sk → (Int → Y) → Int → List Value
  | [], _, _ => []
  | s :: r, f, j => skV s (f j) :: elV r f (j + 1)
def elOk : List Sk → (Int → Y) → Int → Prop
  | [], _, _ => True
  | s :: r, f, j => skOk s (f j) ∧ elOk r f (j + 1)
def rowV (sh : List Sk) (R : Int → Int → Y) : Nat → List Value
  | 0 => []
  | n + 1 => rowV sh R n ++ elV sh (R n) 0
def RowOk (sh : List Sk) (R : Int → Int → Y) (n : Nat) : Prop := ∀ i : Nat, i < n → elOk sh (R i) 0

theorem elV_len : ∀ (sh : List Sk) (f : Int → Y) (j : Int), (elV sh f j).length = sh.length
  | [], _, _ => rfl
  | _ :: r, f, j => by simp [elV, elV_len r f (j + 1)]
theorem elV_get : ∀ (sh : List Sk) (f : Int → Y) (j : Int) (k : Nat), (elV sh f j)[k]? = (sh[k]?).map fun s => skV s (f (j + k))
  | [], _, _, _ => by simp [elV]
  | s :: r, f, j, 0 => by simp [elV]
  | s :: r, f, j, k + 1 => by
    simp only [elV, List.getElem?_cons_succ]
    rw [elV_get r f (j + 1) k]
    congr 1
    funext s
    congr 2
    omega
theorem elOk_get : ∀ {sh : List Sk} {f : Int → Y} {j : Int}, elOk sh f j → ∀ {k : Nat} {s : Sk}, sh[k]? = some s → skOk s (f (j + k))
  | s :: r, f, j, h, 0, s', hk => by simp at hk; subst hk; simpa using h.1
  | s :: r, f, j, h, k + 1, s', hk => by
    simp at hk
    have := elOk_get h.2 hk
    have e : j + 1 + (k : Int) = j + ((k + 1 : Nat) : Int) := by omega
    rwa [e] at this
theorem elOk_of : ∀ {sh : List Sk} {f : Int → Y} {j : Int}, (∀ (k : Nat) (s : Sk), sh[k]? = some s → skOk s (f (j + k))) → elOk sh f j
  | [], _, _, _ => trivial
  | s :: r, f, j, h => ⟨by simpa using h 0 s (by simp), elOk_of fun k s' hk => by
      have := h (k + 1) s' (by simpa using hk)
      have e : j + 1 + (k : Int) = j + ((k + 1 : Nat) : Int) := by omega
      rw [e]; exact this⟩
theorem rowV_len (sh : List Sk) (R : Int → Int → Y) : ∀ n, (rowV sh R n).length = n * sh.length
  | 0 => by simp [rowV]
  | n + 1 => by simp [rowV, rowV_len sh R n, elV_len, Nat.add_mul]
theorem rowV_get {sh : List Sk} {R : Int → Int → Y} : ∀ {n i j : Nat} {s : Sk}, i < n → sh[j]? = some s → (rowV sh R n)[i * sh.length + j]? = some (skV s (R i j))
  | n + 1, i, j, s, hi, hj => by
    have hjl : j < sh.length := (List.getElem?_eq_some_iff.1 hj).1
    rw [rowV, List.getElem?_append]
    split
    · rename_i hlt
      rw [rowV_len] at hlt
      have : i < n := by
        rcases Nat.lt_or_ge i n with h | h
        · exact h
        · have := Nat.mul_le_mul_right sh.length h; omega
      exact rowV_get this hj
    · rename_i hge
      rw [rowV_len] at hge ⊢
      have : i = n := by
        rcases Nat.lt_or_ge i n with h | h
        · have := Nat.mul_le_mul_right sh.length (show i + 1 ≤ n from h)
          rw [Nat.add_mul] at this; omega
        · omega
      subst this
      rw [elV_get, show i * sh.length + j - i * sh.length = j by omega, hj]
      simp
theorem rowV_congr {sh : List Sk} {R S : Int → Int → Y} : ∀ {n : Nat}, (∀ i : Nat, i < n → elV sh (R i) 0 = elV sh (S i) 0) → rowV sh R n = rowV sh S n
  | 0, _ => rfl
  | n + 1, h => by rw [rowV, rowV, rowV_congr fun i hi => h i (by omega), h n (by omega)]
theorem elV_congr : ∀ {sh : List Sk} {f g : Int → Y} {j : Int}, (∀ k : Nat, k < sh.length → f (j + k) = g (j + k)) → elV sh f j = elV sh g j
  | [], _, _, _, _ => rfl
  | s :: r, f, g, j, h => by
    have h0 := h 0 (by simp)
    simp at h0
    have h1 : elV r f (j + 1) = elV r g (j + 1) := elV_congr fun k hk => by
      have := h (k + 1) (by simpa using hk)
      have e : j + 1 + (k : Int) = j + ((k + 1 : Nat) : Int) := by omega
      rw [e]; exact this
    rw [elV, elV, h0, h1]
/-- Two lists of rows of one shape are one if all parts are. -/
theorem rowV_ext {sh : List Sk} {R : Int → Int → Y} {n : Nat} {l : List Value} (hl : l.length = n * sh.length) (h : ∀ (i j : Nat) (s : Sk), i < n → sh[j]? = some s → l[i * sh.length + j]? = some (skV s (R i j))) : l = rowV sh R n := by
  apply List.ext_getElem?
  intro k
  by_cases hk : k < n * sh.length
  · have hpos : 0 < sh.length := by
      rcases Nat.eq_zero_or_pos sh.length with h0 | h0
      · rw [h0] at hk; simp at hk
      · exact h0
    have hi : k / sh.length < n := Nat.div_lt_of_lt_mul (by rw [Nat.mul_comm]; exact hk)
    have hj : k % sh.length < sh.length := Nat.mod_lt _ hpos
    have e : k / sh.length * sh.length + k % sh.length = k := Nat.div_add_mod' k sh.length
    have hs : sh[k % sh.length]? = some sh[k % sh.length] := List.getElem?_eq_getElem hj
    have h1 := h _ _ _ hi hs
    have h2 := rowV_get (R := R) hi hs
    rw [e] at h1 h2
    rw [h1, h2]
  · rw [List.getElem?_eq_none (by omega), List.getElem?_eq_none (by rw [rowV_len]; omega)]

def blkOf : Option Value → Option Nat
  | some (.pointer (some a)) => some a.block
  | some (.slice (some a) _ _) => some a.block
  | _ => none

def EntOk (ρ : Env) (B : Nat) (w : World) (ls : Ls) (i : Nat) (h : HE) : Prop :=
  match h.k with
  | .dead => True
  | .cells cs => ∃ a vs, ls[i]? = some (.pointer (some a)) ∧ All2 (RS ρ ls) cs vs ∧ (∀ j v, vs[j]? = some v → w.cell? (a.add j) = some v) ∧
      (h.wr = true → ∃ b, a = ⟨b, 0, none⟩ ∧ B ≤ b ∧ w.heap[b]? = some (.cells vs.toArray h.ty (0, 0))) ∧ (h.wr = false → a.block < B)
  | .row sh R n hi => ∃ A c, ls[i]? = some (.slice A (evI ρ n).toNat c) ∧ 0 ≤ evI ρ n ∧ evI ρ n ≤ hi ∧ (evI ρ n).toNat ≤ c ∧ 0 < sh.length ∧ RowOk sh (evR ρ R) (evI ρ n).toNat ∧
      (h.wr = true → w.ownsRow B h.ty sh.length (.slice A (evI ρ n).toNat c) (evI ρ n).toNat (rowV sh (evR ρ R) (evI ρ n).toNat)) ∧
      (h.wr = false → 0 < (evI ρ n).toNat → ∃ a, A = some a ∧ a.block < B ∧ ∀ j v, (rowV sh (evR ρ R) (evI ρ n).toNat)[j]? = some v → w.cell? (a.add j) = some v)
  | .grow sz cs => h.wr = true ∧ 0 < sz ∧ ∃ A n c vs, ls[i]? = some (.slice A n c) ∧ vs.length = n * sz ∧ All2 (RS ρ ls) cs vs ∧ w.ownsRow B h.ty sz (.slice A n c) n vs

def HE.live (h : HE) : Bool := h.wr && (match h.k with | .dead => false | _ => true)

/-- The package's variables that the program never changes hold what they hold. -/
def GlobOk (gs : List (Nat × List Value)) (B : Nat) (w : World) : Prop := ∀ x ∈ gs, x.1 < B ∧ ∀ j v, x.2[j]? = some v → w.cell? ⟨x.1, j, none⟩ = some v
theorem GlobOk.kept {gs : List (Nat × List Value)} {B : Nat} {w w' : World} {row : Option Nat} (h : GlobOk gs B w) (hg : w.grownBy w' row) (hB : ∀ k, row = some k → B ≤ k) : GlobOk gs B w' := fun x hx =>
  ⟨(h x hx).1, fun j v hv => hg.cell ((h x hx).2 j v hv) (fun e => by have h1 : B ≤ x.1 := hB _ e.symm; have h2 := (h x hx).1; omega)⟩

structure HOk (ρ : Env) (B : Nat) (w0 : World) (ls : Ls) (hp : SH) (w : World) : Prop where
  below : Below B w0 w
  base : B = w0.heap.size
  len : ls.length = hp.length
  glob : GlobOk ρ.g B w
  ent : ∀ (i : Nat) (h : HE), hp[i]? = some h → EntOk ρ B w ls i h
  inj : ∀ (i j : Nat) (x y : HE) (b : Nat), hp[i]? = some x → hp[j]? = some y → x.live = true → y.live = true → blkOf ls[i]? = some b → blkOf ls[j]? = some b → i = j

theorem block_add (a : Addr) (n : Nat) : (a.add n).block = a.block := by unfold Addr.add; split <;> rfl
theorem add_add (a : Addr) (i j : Nat) : (a.add i).add j = a.add (i + j) := by
  unfold Addr.add
  by_cases hi : i = 0 <;> by_cases hj : j = 0 <;> simp [hi, hj, Nat.add_assoc]

section
variable {ρ : Env} {B : Nat} {w0 w w' : World} {ls : Ls} {hp : SH}

theorem HOk.size (h : HOk ρ B w0 ls hp w) : B ≤ w.heap.size := by rw [h.base]; exact h.below.size

/-- What is kept while one row of blocks turns. -/
theorem EntOk.kept {i : Nat} {x : HE} {row : Option Nat} (h : EntOk ρ B w ls i x) (hg : w.grownBy w' row) (hB : ∀ k, row = some k → B ≤ k) (hne : x.live = true → row = none ∨ blkOf ls[i]? ≠ row) : EntOk ρ B w' ls i x := by
  unfold EntOk at *
  have hcell : ∀ {a : Addr} {v : Value}, a.block < B → w.cell? a = some v → w'.cell? a = some v := fun hb hc =>
    hg.cell hc (fun e => by have := hB _ e.symm; omega)
  split at h
  · trivial
  · rename_i cs hk
    obtain ⟨a, vs, h1, h2, h3, h4, h5⟩ := h
    rw [h1] at hne
    cases hw : x.wr
    · have h5' := h5 hw
      exact ⟨a, vs, h1, h2, fun j v hv => hcell (by rw [block_add]; exact h5') (h3 j v hv), (fun e => by cases e), fun _ => h5'⟩
    · obtain ⟨b, rfl, hb, hh⟩ := h4 hw
      have hlt : b < w.heap.size := (Array.getElem?_eq_some_iff.1 hh).1
      have hbr : some b ≠ row := fun e => by
        rcases hne (by simp [HE.live, hw, hk]) with e' | e'
        · rw [← e] at e'; cases e'
        · exact e' e
      have hh' : w'.heap[b]? = some (.cells vs.toArray x.ty (0, 0)) := by rw [hg.block b hlt hbr]; exact hh
      refine ⟨⟨b, 0, none⟩, vs, h1, h2, fun j v hv => ?_, fun _ => ⟨b, rfl, hb, hh'⟩, (fun e => by cases e)⟩
      rw [Addr.add_lit, cell_of_row w' b _ _ _ _ hh']; simpa using hv
  · rename_i sh R n hi hk
    obtain ⟨A, c, h1, h2, h3, h4, h5, h6, h7, h8⟩ := h
    rw [h1] at hne
    refine ⟨A, c, h1, h2, h3, h4, h5, h6, fun hw => (h7 hw).kept hg ?_, fun hw hn => ?_⟩
    · rcases hne (by simp [HE.live, hw, hk]) with e | e
      · subst e; cases hA : A with
        | none => exact .inl (by simp [Value.ownBlock])
        | some a => exact .inr (by simp [Value.ownBlock])
      · cases hA : A with
        | none => exact .inl (by simp [Value.ownBlock])
        | some a => rw [hA] at e; exact .inr (by simpa [Value.ownBlock, blkOf] using e)
    · obtain ⟨a, e1, e2, e3⟩ := h8 hw hn
      exact ⟨a, e1, e2, fun j v hv => hcell (by rw [block_add]; exact e2) (e3 j v hv)⟩
  · rename_i sz cs hk
    obtain ⟨hw, h0, A, n, c, vs, h1, h2, h3, h4⟩ := h
    rw [h1] at hne
    refine ⟨hw, h0, A, n, c, vs, h1, h2, h3, h4.kept hg ?_⟩
    rcases hne (by simp [HE.live, hw, hk]) with e | e
    · subst e; cases hA : A with
      | none => exact .inl (by simp [Value.ownBlock])
      | some a => exact .inr (by simp [Value.ownBlock])
    · cases hA : A with
      | none => exact .inl (by simp [Value.ownBlock])
      | some a => rw [hA] at e; exact .inr (by simpa [Value.ownBlock, blkOf] using e)

theorem grownBy_of_below (hb : Below w.heap.size w w') (row : Option Nat) : w.grownBy w' row := ⟨hb.os, hb.tape, hb.output, hb.size, fun k hk _ => hb.block k hk⟩

theorem HOk.calls (h : HOk ρ B w0 ls hp w) (hb : Below w.heap.size w w') : HOk ρ B w0 ls hp w' where
  below := h.below.trans (hb.mono h.size)
  base := h.base
  len := h.len
  glob := h.glob.kept (grownBy_of_below hb none) (fun k e => by cases e)
  ent := fun i x hx => (h.ent i x hx).kept (grownBy_of_below hb none) (fun k e => by cases e) (fun _ => .inl rfl)
  inj := h.inj

theorem EntOk.drawn {i : Nat} {x : HE} (h : EntOk ρ B w ls i x) (n : Nat) : EntOk ρ B { w with drawn := n } ls i x := by
  unfold EntOk at *
  split at h <;> exact h
theorem HOk.drawn (h : HOk ρ B w0 ls hp w) (n : Nat) : HOk ρ B w0 ls hp { w with drawn := n } where
  below := ⟨h.below.os, h.below.tape, h.below.output, h.below.size, h.below.block⟩
  base := h.base
  len := h.len
  glob := h.glob
  ent := fun i x hx => (h.ent i x hx).drawn n
  inj := h.inj

theorem EntOk.ext {ls' : Ls} (he : Ext ls ls') {i : Nat} {x : HE} (h : EntOk ρ B w ls i x) : EntOk ρ B w ls' i x := by
  unfold EntOk at *
  split at h
  · trivial
  · obtain ⟨a, vs, h1, h2, h3⟩ := h; exact ⟨a, vs, he _ _ h1, h2.mono fun _ _ => RS.ext he, h3⟩
  · obtain ⟨A, c, h1, h2⟩ := h; exact ⟨A, c, he _ _ h1, h2⟩
  · obtain ⟨hw, h0, A, n, c, vs, h1, h2, h3, h4⟩ := h; exact ⟨hw, h0, A, n, c, vs, he _ _ h1, h2, h3.mono fun _ _ => RS.ext he, h4⟩

theorem live_blk {i : Nat} {x : HE} {b : Nat} (h : EntOk ρ B w ls i x) (hl : x.live = true) (hb : blkOf ls[i]? = some b) : B ≤ b ∧ b < w.heap.size := by
  simp only [HE.live, Bool.and_eq_true] at hl
  obtain ⟨hw, hk⟩ := hl
  unfold EntOk at h
  split at h
  · rename_i e; rw [e] at hk; cases hk
  · obtain ⟨a, vs, h1, _, _, h4, _⟩ := h
    obtain ⟨b', rfl, hB, hh⟩ := h4 hw
    rw [h1] at hb
    cases hb
    exact ⟨hB, (Array.getElem?_eq_some_iff.1 hh).1⟩
  · obtain ⟨A, c, h1, _, _, _, _, _, h7, _⟩ := h
    rw [h1] at hb
    cases A with
    | none => cases hb
    | some a => cases hb; exact (h7 hw).lt _ rfl
  · obtain ⟨_, _, A, n, c, vs, h1, _, _, h4⟩ := h
    rw [h1] at hb
    cases A with
    | none => cases hb
    | some a => cases hb; exact h4.lt _ rfl

/-- A new entry at a new place. -/
theorem HOk.push (h : HOk ρ B w0 ls hp w) (hg : w.grownBy w' none) {v : Value} {x : HE} (hx : EntOk ρ B w' (ls ++ [v]) ls.length x) (hv : ∀ b, blkOf (some v) = some b → w.heap.size ≤ b) : HOk ρ B w0 (ls ++ [v]) (hp ++ [x]) w' where
  below := h.below.grown hg h.size (fun k e => by cases e)
  base := h.base
  len := by simp [h.len]
  glob := h.glob.kept hg (fun k e => by cases e)
  ent := fun i y hy => by
    rw [List.getElem?_append] at hy
    split at hy
    · exact ((h.ent i y hy).kept hg (fun k e => by cases e) (fun _ => .inl rfl)).ext (Ext.snoc ls v)
    · rename_i hlt
      have hi : i = hp.length := by
        cases hk : i - hp.length with
        | zero => omega
        | succ n => simp [hk] at hy
      subst hi
      simp at hy
      subst hy
      rw [← h.len]; exact hx
  inj := fun i j y z b hy hz ly lz bi bj => by
    have old : ∀ {i : Nat} {y : HE}, hp[i]? = some y → (ls ++ [v])[i]? = ls[i]? := fun {i y} hy => by
      have : i < hp.length := (List.getElem?_eq_some_iff.1 hy).1
      rw [List.getElem?_append_left (by rw [h.len]; exact this)]
    have new : ∀ {i : Nat} {y : HE}, (hp ++ [x])[i]? = some y → ¬ i < hp.length → i = ls.length ∧ (ls ++ [v])[i]? = some v := fun {i y} hy hn => by
      have : i < (hp ++ [x]).length := (List.getElem?_eq_some_iff.1 hy).1
      simp at this
      have e : i = ls.length := by rw [h.len]; omega
      subst e; exact ⟨rfl, by simp⟩
    by_cases hi : i < hp.length <;> by_cases hj : j < hp.length
    · rw [List.getElem?_append_left hi] at hy
      rw [List.getElem?_append_left hj] at hz
      rw [old hy] at bi; rw [old hz] at bj
      exact h.inj i j y z b hy hz ly lz bi bj
    · obtain ⟨e1, e2⟩ := new hz hj
      rw [List.getElem?_append_left hi] at hy
      rw [old hy] at bi; rw [e2] at bj
      have := (live_blk (h.ent i y hy) ly bi).2
      have := hv b bj
      omega
    · obtain ⟨e1, e2⟩ := new hy hi
      rw [List.getElem?_append_left hj] at hz
      rw [old hz] at bj; rw [e2] at bi
      have := (live_blk (h.ent j z hz) lz bj).2
      have := hv b bi
      omega
    · rw [(new hy hi).1, (new hz hj).1]

theorem HOk.alloc (h : HOk ρ B w0 ls hp w) {ty : TypeId} {cs : List SC} {vs : List Value} (hc : All2 (RS ρ ls) cs vs) :
    HOk ρ B w0 (ls ++ [.pointer (some ⟨w.heap.size, 0, none⟩)]) (hp ++ [⟨true, ty, .cells cs⟩]) (w.alloc (.cells vs.toArray ty)) := by
  refine h.push (World.grownBy_alloc w _ none) ?_ (fun b e => by cases e; exact Nat.le_refl _)
  have hh : (w.alloc (.cells vs.toArray ty)).heap[w.heap.size]? = some (.cells vs.toArray ty (0, 0)) := heap_alloc_new w _
  refine ⟨⟨w.heap.size, 0, none⟩, vs, by simp, hc.mono fun _ _ => RS.ext (Ext.snoc ls _), fun j v hv => ?_, fun _ => ⟨_, rfl, h.size, hh⟩, fun e => by cases e⟩
  rw [Addr.add_lit, cell_of_row _ _ _ _ _ _ hh]; simpa using hv

/-- One entry turns: what it holds, and the world in its own block. -/
theorem HOk.turn (h : HOk ρ B w0 ls hp w) {l : Nat} {x x' : HE} {row : Option Nat} (hl : hp[l]? = some x) (hlive : x.live = true) (hg : w.grownBy w' row) (hrow : row = none ∨ blkOf ls[l]? = row) (hx : EntOk ρ B w' ls l x') (hlx : x'.live = true → x.live = true) :
    HOk ρ B w0 ls (hp.set l x') w' where
  below := h.below.grown hg h.size (fun k e => by
    rcases hrow with e' | e'
    · rw [e] at e'; cases e'
    · rw [e] at e'; exact (live_blk (h.ent l x hl) hlive e').1)
  base := h.base
  len := by rw [List.length_set]; exact h.len
  glob := h.glob.kept hg (fun k e => by
    rcases hrow with e' | e'
    · rw [e] at e'; cases e'
    · rw [e] at e'; exact (live_blk (h.ent l x hl) hlive e').1)
  ent := fun i y hy => by
    have hll : l < hp.length := (List.getElem?_eq_some_iff.1 hl).1
    by_cases hil : i = l
    · subst hil
      rw [List.getElem?_set_self hll] at hy
      cases hy; exact hx
    · rw [List.getElem?_set_ne (Ne.symm hil)] at hy
      refine (h.ent i y hy).kept hg (fun k e => ?_) (fun hly => ?_)
      · rcases hrow with e' | e'
        · rw [e] at e'; cases e'
        · rw [e] at e'; exact (live_blk (h.ent l x hl) hlive e').1
      · rcases hrow with e | e
        · exact .inl e
        · cases hr : row with
          | none => exact .inl rfl
          | some b =>
            rw [hr] at e
            exact .inr fun e' => hil (h.inj i l y x b hy hl hly hlive e' e)
  inj := fun i j y z b hy hz ly lz bi bj => by
    have hll : l < hp.length := (List.getElem?_eq_some_iff.1 hl).1
    have back : ∀ {i : Nat} {y : HE}, (hp.set l x')[i]? = some y → y.live = true → ∃ y', hp[i]? = some y' ∧ y'.live = true := fun {i y} hy ly => by
      by_cases hil : i = l
      · subst hil
        rw [List.getElem?_set_self hll] at hy
        cases hy
        exact ⟨x, hl, hlx ly⟩
      · rw [List.getElem?_set_ne (Ne.symm hil)] at hy
        exact ⟨y, hy, ly⟩
    obtain ⟨y', hy', ly'⟩ := back hy ly
    obtain ⟨z', hz', lz'⟩ := back hz lz
    exact h.inj i j y' z' b hy' hz' ly' lz' bi bj

/-- An own row that grew: the old entry is dead, a new one stands for the new slice. -/
theorem HOk.grown (h : HOk ρ B w0 ls hp w) {l : Nat} {x x' : HE} {v v' : Value} (hl : hp[l]? = some x) (hx : x.live = true) (hv : ls[l]? = some v) (hg : w.grownBy w' v.ownBlock) (hb : blkOf (some v) = v.ownBlock) (hb' : blkOf (some v') = v'.ownBlock) (hat : v'.ownBlock = v.ownBlock ∨ v'.ownBlock = some w.heap.size)
    (hx' : EntOk ρ B w' (ls ++ [v']) ls.length x') : HOk ρ B w0 (ls ++ [v']) (hp.set l ⟨x.wr, x.ty, .dead⟩ ++ [x']) w' := by
  have hll : l < hp.length := (List.getElem?_eq_some_iff.1 hl).1
  have hrow : ∀ k, v.ownBlock = some k → B ≤ k ∧ k < w.heap.size := fun k e => live_blk (h.ent l x hl) hx (by rw [hv, hb]; exact e)
  have hcase : ∀ {i : Nat} {y : HE}, (hp.set l ⟨x.wr, x.ty, .dead⟩ ++ [x'])[i]? = some y → (i = l ∧ y = ⟨x.wr, x.ty, .dead⟩) ∨ (i ≠ l ∧ i < hp.length ∧ hp[i]? = some y ∧ (ls ++ [v'])[i]? = ls[i]?) ∨ (i = ls.length ∧ y = x' ∧ (ls ++ [v'])[i]? = some v') := fun {i y} hy => by
    by_cases hi : i < hp.length
    · rw [List.getElem?_append_left (by rw [List.length_set]; exact hi)] at hy
      by_cases hil : i = l
      · subst hil
        rw [List.getElem?_set_self hll] at hy
        cases hy; exact .inl ⟨rfl, rfl⟩
      · rw [List.getElem?_set_ne (Ne.symm hil)] at hy
        exact .inr (.inl ⟨hil, hi, hy, List.getElem?_append_left (by rw [h.len]; exact hi)⟩)
    · have : i < (hp.set l ⟨x.wr, x.ty, .dead⟩ ++ [x']).length := (List.getElem?_eq_some_iff.1 hy).1
      simp at this
      have e : i = ls.length := by rw [h.len]; omega
      subst e
      rw [List.getElem?_append_right (by simp [h.len])] at hy
      simp [h.len] at hy
      exact .inr (.inr ⟨rfl, hy.symm, by simp⟩)
  refine ⟨h.below.grown hg h.size (fun k e => (hrow k e).1), h.base, by simp [h.len], h.glob.kept hg (fun k e => (hrow k e).1), fun i y hy => ?_, fun i j y z b hy hz ly lz bi bj => ?_⟩
  · rcases hcase hy with ⟨rfl, rfl⟩ | ⟨hil, hi, hy', _⟩ | ⟨rfl, rfl, _⟩
    · trivial
    · refine ((h.ent i y hy').kept hg (fun k e => (hrow k e).1) (fun hly => ?_)).ext (Ext.snoc ls v')
      cases hr : v.ownBlock with
      | none => exact .inl rfl
      | some b => exact .inr fun e' => hil (h.inj i l y x b hy' hl hly hx e' (by rw [hv, hb, hr]))
    · exact hx'
  · have dead : ∀ {y : HE}, y = ⟨x.wr, x.ty, .dead⟩ → y.live = true → False := fun e l => by subst e; simp [HE.live] at l
    have newold : ∀ {i : Nat} {y : HE} {b : Nat}, hp[i]? = some y → y.live = true → i ≠ l → blkOf ls[i]? = some b → blkOf (some v') = some b → False := fun {i y b} hy ly hil bi bv => by
      rw [hb'] at bv
      rcases hat with e | e
      · rw [e] at bv
        exact hil (h.inj i l y x b hy hl ly hx bi (by rw [hv, hb, bv]))
      · rw [e] at bv
        cases bv
        have := (live_blk (h.ent i y hy) ly bi).2
        omega
    rcases hcase hy with ⟨_, e⟩ | ⟨hil, _, hy', ey⟩ | ⟨e1, _, ey⟩
    · exact (dead e ly).elim
    · rw [ey] at bi
      rcases hcase hz with ⟨_, e⟩ | ⟨hjl, _, hz', ez⟩ | ⟨e2, _, ez⟩
      · exact (dead e lz).elim
      · rw [ez] at bj
        exact h.inj i j y z b hy' hz' ly lz bi bj
      · rw [ez] at bj
        exact (newold hy' ly hil bi bj).elim
    · rw [ey] at bi
      rcases hcase hz with ⟨_, e⟩ | ⟨hjl, _, hz', ez⟩ | ⟨e2, _, ez⟩
      · exact (dead e lz).elim
      · rw [ez] at bj
        exact (newold hz' lz hjl bj bi).elim
      · rw [e1, e2]

theorem grownBy_setCell (w : World) (b o : Nat) (v : Value) : w.grownBy (w.setCell ⟨b, o, none⟩ v) (some b) :=
  ⟨rfl, rfl, rfl, by simp, fun k _ hk => heap_setCell_other w ⟨b, o, none⟩ k v (fun e => hk (by simp [e]))⟩

theorem HOk.set (h : HOk ρ B w0 ls hp w) {l o : Nat} {ty : TypeId} {cs : List SC} (hl : hp[l]? = some ⟨true, ty, .cells cs⟩) (ho : o < cs.length)
    {s : SC} {v : Value} (hs : RS ρ ls s v) (h1 : v.oneCell' = true) {a : Addr} (ha : ls[l]? = some (.pointer (some a))) (P : Program) :
    (store (a.add o) v).run P w = .ok () (w.setCell (a.add o) v) ∧ HOk ρ B w0 ls (hp.set l ⟨true, ty, .cells (cs.set o s)⟩) (w.setCell (a.add o) v) := by
  obtain ⟨a', vs, e1, e2, e3, e4, _⟩ := h.ent l _ hl
  rw [ha] at e1; cases e1
  obtain ⟨b, rfl, hB, hh⟩ := e4 rfl
  have hlen := e2.len
  rw [Addr.add_lit]
  simp only [Nat.zero_add]
  have hcell : w.cell? ⟨b, o, none⟩ = some (vs[o]'(by omega)) := by
    rw [cell_of_row w b o _ _ _ hh]; simp
  refine ⟨?_, ?_⟩
  · rw [run_store P w _ v .plain h1, hcell, frozen_of_row w b o _ _ hh]
    rfl
  · refine h.turn hl rfl (grownBy_setCell w b o v) (.inr (by rw [ha]; rfl)) ?_ (fun _ => rfl)
    have hh' : (w.setCell ⟨b, o, none⟩ v).heap[b]? = some (.cells (vs.set o v).toArray ty (0, 0)) := by
      rw [heap_setCell_same w b o _ _ v hh, List.setIfInBounds_toArray]
    refine ⟨⟨b, 0, none⟩, vs.set o v, ha, e2.set o hs, fun j u hu => ?_, fun _ => ⟨b, rfl, hB, hh'⟩, fun e => by cases e⟩
    rw [Addr.add_lit, cell_of_row _ _ _ _ _ _ hh']; simpa using hu
end
end Vc
end Go.Proofs.YtfpecoddgdcaaaaDoor
