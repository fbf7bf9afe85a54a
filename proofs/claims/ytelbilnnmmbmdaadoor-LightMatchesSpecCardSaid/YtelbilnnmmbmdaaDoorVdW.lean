/- A law's walk as a proposition over its arguments. -/
import Derived.Test.YtelbilnnmmbmdaaDoorVdL
import Derived.ProofKit
import Derived.OpenShut
import Derived.ReadAgain
import Derived.ChangeMaps5
namespace Go.Proofs.YtelbilnnmmbmdaaDoor
namespace Vc
open Go Go.RowKit Go.ChangeShapes Go.WideShapes Go.ChangeAt
set_option linter.unusedVariables false
def Fm.law : Env → Fm → Prop
 | _, .tru => True
 | _, .fls => False
 | ρ, .and a b => a.law ρ ∧ b.law ρ
 | ρ, .imp g a => evP ρ g → a.law ρ
 | ρ, .tst e => evP ρ e
 | ρ, .pre k A => ρ.p k (ev ρ A).l
 | ρ, .leaf (.c (.bool e)) _ => evP ρ e
 | _, .leaf _ _ => False
 | ρ, .all m a => ∀ y : X, a.law (ρ.setx m y)
 | ρ, .impP k A a => ρ.p k (ev ρ A).l → a.law ρ
 | ρ, .rowH sh R n hi a => (0 ≤ evI ρ n ∧ evI ρ n ≤ hi ∧ RowOk sh (evR ρ R) (evI ρ n).toNat) → a.law ρ
theorem law_holds {B : Nat} {w0 : World} : ∀ {F : Fm} {ρ : Env}, F.law ρ → F.holds (fun ρ => LeafOk ρ B w0 fun e w' => e = .returned (.bool true) ∧ Below w0.heap.size w0 w') ρ
 | .tru, _, _ => trivial
 | .fls, _, h => h
 | .and _ _, _, h => ⟨law_holds h.1, law_holds h.2⟩
 | .imp g a, _, h => fun hg => law_holds (F := a) (h hg)
 | .tst _, _, h => h
 | .pre _ _, _, h => h
 | .leaf (.c (.bool e)) hp, ρ, h => fun k ls w' val hh hr => by
  have he : evB ρ e = true := (evP_iff ρ e).1 h
  have hv : val = .bool (evB (ρ.wk k) e) := hr
  rw [evB_wk] at hv
  rw [hv, he]
  exact ⟨rfl, by have := hh.below; rwa [hh.base] at this⟩
 | .leaf (.c .und) _, _, h => h.elim
 | .leaf (.c (.int ..)) _, _, h => h.elim
 | .leaf (.c (.ptr ..)) _, _, h => h.elim
 | .leaf (.c (.fn ..)) _, _, h => h.elim
 | .leaf (.c (.cst ..)) _, _, h => h.elim
 | .leaf (.c (.opv ..)) _, _, h => h.elim
 | .leaf (.c (.str ..)) _, _, h => h.elim
 | .leaf (.c (.gl ..)) _, _, h => h.elim
 | .leaf (.c (.ow ..)) _, _, h => h.elim
 | .leaf (.c (.sl ..)) _, _, h => h.elim
 | .leaf (.c (.sc ..)) _, _, h => h.elim
 | .leaf (.c (.pe ..)) _, _, h => h.elim
 | .leaf (.c (.ln ..)) _, _, h => h.elim
 | .leaf (.agg _) _, _, h => h.elim
 | .leaf (.tup _) _, _, h => h.elim
 | .leaf (.c (.yld _)) _, _, h => h.elim
 | .all m a, ρ, h => fun y => law_holds (F := a) (h y)
 | .impP _ _ a, _, h => fun hp => law_holds (F := a) (h hp)
 | .rowH _ _ _ _ a, _, h => fun hp => law_holds (F := a) (h hp)
def Fm.isT1 : Fm → Bool
 | .leaf (.c (.bool (.bc b))) _ => b
 | .and a b => a.isT1 && b.isT1
 | .imp _ a => a.isT1
 | .tru => true
 | _ => false
theorem isT1_law {ρ : Env} {F : Fm} (h : F.isT1 = true) : F.law ρ := by
 fun_induction Fm.isT1 F with
 | case1 b hp => subst h; exact rfl
 | case2 a b i1 i2 =>
  rw [Bool.and_eq_true] at h
  exact ⟨i1 h.1, i2 h.2⟩
 | case3 g a i => exact fun _ => i h
 | case4 => trivial
 | case5 => cases h
theorem lt_of_cell {w : World} {a : Addr} {v : Value} (h : w.cell? a = some v) : a.block < w.heap.size := by
 unfold World.cell? at h
 rcases Nat.lt_or_ge a.block w.heap.size with h1 | h1
 ·exact h1
 ·rw [Array.getElem?_eq_none h1] at h
  simp at h
def bodyC (f : Func) : Code := f.body.getD .skip
def walkF (P : Program) (cf : Cfg) (fn : Func) (n : Nat) (vs : List SV) : Fm := go P cf 0 fn n (.code (bodyC fn)) [] (begin0 fn vs) [] none
theorem law_calls {P : Program} {ρ : Env} {cf : Cfg} (hc : CfgOk P ρ cf) {f : FuncId} {fn : Func} (hf : P.funcs[f]? = some fn) (hb : fn.body = some (bodyC fn)) (n : Nat) {vs : List SV} {us : List Value} {w : World} (hg : GlobOk ρ.g w.heap.size w) (hv : All2 (RV ρ []) vs us)
 (h : (walkF P cf fn n vs).law ρ) : Calls P f us.toArray w fun e w' => e = .returned (.bool true) ∧ Below w.heap.size w w' :=
 call_ok hc hf hb n hg hv (law_holds h)
theorem beqB (a b : Bool) : ((a == b) = true) ↔ (a = true ↔ b = true) := by cases a <;> cases b <;> simp
theorem beqNB (a b : Bool) : ((a == b) = false) ↔ ¬ (a = true ↔ b = true) := by cases a <;> cases b <;> simp
theorem notB (a : Bool) : ((!a) = true) ↔ ¬ (a = true) := by cases a <;> simp
theorem xI_i (n : Int) : (xI n).i = n := rfl
theorem xB_b (b : Bool) : (xB b).b = b := rfl
theorem ctr_true {P : Program} {ρ : Env} {cf : Cfg} (hc : CfgOk P ρ cf) {f : FuncId} {fn : Func} (hf : P.funcs[f]? = some fn) (hb : fn.body = some (bodyC fn)) (n fs : Nat) (h : (walkF P cf fn n []).isT1 = true) : CtrOk P ρ ⟨f, [], .one (.cst (.bool true)), none, fs⟩ := by
 intro ds w hg hr _
 have : ds = [] := hr
 subst this
 exact (law_calls (vs := []) (us := []) hc hf hb n hg trivial (isT1_law h)).mono fun e w' ⟨he, hb⟩ => ⟨_, he, rfl, hb⟩
inductive Lf where
 | int (k : IntKind) | bool | str
 deriving DecidableEq, Inhabited
def LfOk : Lf → Value → Prop
 | .int k, v => ∃ n, v = .int k n ∧ kmin k ≤ n ∧ n ≤ kmax k
 | .bool, v => ∃ b, v = .bool b
 | .str, v => ∃ s : ByteArray, v = .string s ∧ s.size ≤ maxLen
def rep {α : Type} (l : List α) : Nat → List α
 | 0 => []
 | n + 1 => rep l n ++ l
def leavesF (P : Program) (g : TypeId → Option (List Lf)) : List Field → Nat → Option (List Lf)
 | [], _ => some []
 | f :: r, off => match g f.type, leavesF P g r (off + P.cellsOf f.type) with
  | some l, some l' => if l.length = P.cellsOf f.type ∧ f.offset = off then some (l ++ l') else none
  | _, _ => none
def leaves (P : Program) : Nat → TypeId → Option (List Lf)
 | 0, _ => none
 | m + 1, t => match P.underlying t with
  | some (.int k) => some [.int k]
  | some .bool => some [.bool]
  | some .string => some [.str]
  | some (.array n e) => (match leaves P m e with | some l => if l.length = P.cellsOf e ∧ P.cellsOf t = n * P.cellsOf e then some (rep l n) else none | none => none)
  | some (.struct fs) => (match leavesF P (leaves P m) fs.toList 0 with | some l => if l.length = P.cellsOf t then some l else none | none => none)
  | _ => none
theorem wf_rng {k : IntKind} {n : Int} (h : (Lit.int k n).wf = true) : kmin k ≤ n ∧ n ≤ kmax k := by
 cases k
 ·exact bounds_i8 h
 ·exact bounds_i16 h
 ·exact bounds_i32 h
 ·exact bounds_i64 h
 ·exact bounds_u8 h
 ·exact bounds_u16 h
 ·exact bounds_u32 h
 ·exact bounds_u64 h
theorem rep_len {α : Type} (l : List α) : ∀ n, (rep l n).length = n * l.length
 | 0 => by simp [rep]
 | n + 1 => by rw [rep, List.length_append, rep_len l n, Nat.add_mul, Nat.one_mul]
section
variable {H : Type} {enc : TypeId × Value → H} {P : Program} {w : World} {base : Nat} {sp : Nat → Bool} {held : Bool}
theorem leavesF_ok {g : TypeId → Option (List Lf)} {cs : List Value} : ∀ {fl : List Field} {off : Nat} {ks : List Lf}, leavesF P g fl off = some ks → (∀ f ∈ fl, ∀ l, g f.type = some l → All2 LfOk l ((cs.drop f.offset).take (P.cellsOf f.type))) → All2 LfOk ks ((cs.drop off).take ks.length)
 | [], off, ks, h, _ => by cases h; simp [All2]
 | f :: r, off, ks, h, hf => by
  simp only [leavesF] at h
  split at h
  ·rename_i l l' hl hl'
   split at h
   ·rename_i hif
    obtain ⟨h1, h2⟩ := hif
    cases h
    have a1 := hf f (by simp) l hl
    have a2 := leavesF_ok hl' fun f' hf' => hf f' (by simp [hf'])
    rw [h2, ← h1] at a1
    rw [← h1, ← List.drop_drop] at a2
    rw [List.length_append, List.take_add]
    exact a1.append a2
   ·cases h
  ·cases h
theorem rep_ok {cs : List Value} {l : List Lf} {sz : Nat} (hl : l.length = sz) : ∀ {n : Nat}, (∀ i, i < n → All2 LfOk l ((cs.drop (i * sz)).take sz)) → All2 LfOk (rep l n) (cs.take (n * sz))
 | 0, _ => by simp [rep, All2]
 | n + 1, h => by
  rw [rep, Nat.add_mul, Nat.one_mul, List.take_add]
  exact (rep_ok hl fun i hi => h i (by omega)).append (h n (by omega))
theorem trod_leaves : ∀ {m n : Nat} {t : TypeId} {cs : List Value} {x : DataW H × List MemPlace} {ks : List Lf}, leaves P m t = some ks → DataW.trod enc P w base sp held n t cs = some x → All2 LfOk ks cs
 | 0, _, _, _, _, _, h, _ => by cases h
 | m + 1, n, t, cs, x, ks, h, hx => by
  simp only [leaves] at h
  split at h
  ·rename_i k ht
   cases h
   obtain ⟨i, rfl, _, hw⟩ := DataW.trod_int ht hx
   exact ⟨⟨i, rfl, wf_rng hw⟩, trivial⟩
  ·rename_i ht
   cases h
   obtain ⟨b, rfl, _⟩ := DataW.trod_bool ht hx
   exact ⟨⟨b, rfl⟩, trivial⟩
  ·rename_i ht
   cases h
   obtain ⟨s, rfl, _, hs⟩ := DataW.trod_string ht hx
   exact ⟨⟨s, rfl, hs⟩, trivial⟩
  ·rename_i len e ht
   split at h
   ·rename_i l hl
    split at h
    ·rename_i hif
     obtain ⟨h1, h2⟩ := hif
     cases h
     obtain ⟨xs, m', _, _, hlen, hxs, hel⟩ := DataW.trod_array ht hx
     have := rep_ok (cs := cs) h1 (n := len) fun i hi => by
      have := hel i hi
      rw [List.getElem?_eq_getElem (by omega)] at this
      exact trod_leaves hl this
     rw [← h2, ← hlen, List.take_length] at this
     exact this
    ·cases h
   ·cases h
  ·rename_i fs ht
   split at h
   ·rename_i l hl
    split at h
    ·rename_i hif
     cases h
     obtain ⟨xs, m', _, _, hlen, hxs, hel⟩ := DataW.trod_struct ht hx
     have := leavesF_ok (cs := cs) hl fun f hf l' hl' => by
      obtain ⟨i, hi⟩ := List.getElem?_of_mem hf
      have hi' : fs[i]? = some f := by simpa using hi
      have := hel i f hi'
      have hlt : i < fs.size := (Array.getElem?_eq_some_iff.1 hi').1
      rw [List.getElem?_eq_getElem (by omega)] at this
      exact trod_leaves hl' this
     rw [hif, ← hlen, List.drop_zero, List.take_length] at this
     exact this
    ·cases h
   ·cases h
  ·cases h
theorem leavesF_inj {g : TypeId → Option (List Lf)} {cs cs' : List Value} : ∀ {fl : List Field} {off : Nat} {ks : List Lf}, leavesF P g fl off = some ks → (∀ f ∈ fl, ∀ l, g f.type = some l → (cs.drop f.offset).take (P.cellsOf f.type) = (cs'.drop f.offset).take (P.cellsOf f.type)) → (cs.drop off).take ks.length = (cs'.drop off).take ks.length
 | [], off, ks, h, _ => by cases h; simp
 | f :: r, off, ks, h, hf => by
  simp only [leavesF] at h
  split at h
  ·rename_i l l' hl hl'
   split at h
   ·rename_i hif
    obtain ⟨h1, h2⟩ := hif
    cases h
    have a1 := hf f (by simp) l hl
    have a2 := leavesF_inj hl' fun f' hf' => hf f' (by simp [hf'])
    rw [h2, ← h1] at a1
    rw [← h1, ← List.drop_drop, ← List.drop_drop] at a2
    rw [List.length_append, List.take_add, List.take_add, a1, a2]
   ·cases h
  ·cases h
theorem rep_inj {cs cs' : List Value} {sz : Nat} : ∀ {n : Nat}, (∀ i, i < n → (cs.drop (i * sz)).take sz = (cs'.drop (i * sz)).take sz) → cs.take (n * sz) = cs'.take (n * sz)
 | 0, _ => by simp
 | n + 1, h => by
  rw [Nat.add_mul, Nat.one_mul, List.take_add, List.take_add, rep_inj fun i hi => h i (by omega), h n (by omega)]
theorem trod_inj : ∀ {m n n' : Nat} {t : TypeId} {cs cs' : List Value} {x x' : DataW H × List MemPlace} {ks : List Lf}, leaves P m t = some ks → DataW.trod enc P w base sp held n t cs = some x → DataW.trod enc P w base sp held n' t cs' = some x' → x.1 = x'.1 → cs = cs'
 | 0, _, _, _, _, _, _, _, _, h, _, _, _ => by cases h
 | m + 1, n, n', t, cs, cs', x, x', ks, h, hx, hx', he => by
  simp only [leaves] at h
  have hidx : ∀ {xs xs' : List (DataW H × List MemPlace)} {i : Nat} (h1 : i < xs.length) (h2 : i < xs'.length), xs.map (·.1) = xs'.map (·.1) → xs[i].1 = xs'[i].1 := fun {xs xs' i} h1 h2 e => by
   have := congrArg (fun l => l[i]?) e
   simpa [h1, h2] using this
  split at h
  ·rename_i k ht
   obtain ⟨i, rfl, e1, _⟩ := DataW.trod_int ht hx
   obtain ⟨i', rfl, e2, _⟩ := DataW.trod_int ht hx'
   rw [e1, e2] at he
   injection he with he; injection he with _ he
   rw [he]
  ·rename_i ht
   obtain ⟨b, rfl, e1⟩ := DataW.trod_bool ht hx
   obtain ⟨b', rfl, e2⟩ := DataW.trod_bool ht hx'
   rw [e1, e2] at he
   injection he with he; injection he with he
   rw [he]
  ·rename_i ht
   obtain ⟨s, rfl, e1, _⟩ := DataW.trod_string ht hx
   obtain ⟨s', rfl, e2, _⟩ := DataW.trod_string ht hx'
   rw [e1, e2] at he
   injection he with he; injection he with he
   have : s = s' := by
    obtain ⟨⟨l⟩⟩ := s
    obtain ⟨⟨l'⟩⟩ := s'
    simp at he
    subst he; rfl
   rw [this]
  ·rename_i len e ht
   split at h
   ·rename_i l hl
    split at h
    ·rename_i hif
     obtain ⟨h1, h2⟩ := hif
     obtain ⟨xs, m1, _, e1, hlen, hxs, hel⟩ := DataW.trod_array ht hx
     obtain ⟨xs', m2, _, e2, hlen', hxs', hel'⟩ := DataW.trod_array ht hx'
     rw [e1, e2] at he
     injection he with he
     have := rep_inj (cs := cs) (cs' := cs') (sz := P.cellsOf e) (n := len) fun i hi => by
      have g1 := hel i hi
      have g2 := hel' i hi
      rw [List.getElem?_eq_getElem (by omega)] at g1 g2
      exact trod_inj hl g1 g2 (hidx (by omega) (by omega) he)
     rw [← h2, List.take_of_length_le (by omega), List.take_of_length_le (by omega)] at this
     exact this
    ·cases h
   ·cases h
  ·rename_i fs ht
   split at h
   ·rename_i l hl
    split at h
    ·rename_i hif
     obtain ⟨xs, m1, _, e1, hlen, hxs, hel⟩ := DataW.trod_struct ht hx
     obtain ⟨xs', m2, _, e2, hlen', hxs', hel'⟩ := DataW.trod_struct ht hx'
     rw [e1, e2] at he
     injection he with he
     have := leavesF_inj (cs := cs) (cs' := cs') hl fun f hf l' hl' => by
      obtain ⟨i, hi⟩ := List.getElem?_of_mem hf
      have hi' : fs[i]? = some f := by simpa using hi
      have g1 := hel i f hi'
      have g2 := hel' i f hi'
      have hlt : i < fs.size := (Array.getElem?_eq_some_iff.1 hi').1
      rw [List.getElem?_eq_getElem (by omega)] at g1 g2
      exact trod_inj hl' g1 g2 (hidx (by omega) (by omega) he)
     rw [hif, List.drop_zero, List.drop_zero, List.take_of_length_le (by omega), List.take_of_length_le (by omega)] at this
     exact this
    ·cases h
   ·cases h
  ·cases h
def lfS (j : Nat) : Lf → SC
 | .int k => .int k (.var j) (kmin k) (kmax k)
 | .bool => .bool (.var j)
 | .str => .str (.var j) maxLen
def lfSs : List Lf → Nat → List SC
 | [], _ => []
 | l :: r, j => lfS j l :: lfSs r (j + 1)
def valX : Value → X
 | .int _ n => xI n
 | .bool b => xB b
 | .string s => xS s
 | v => xV v
def lfX : Lf → X → Prop
 | .int k, x => x = xI x.i ∧ kmin k ≤ x.i ∧ x.i ≤ kmax k
 | .bool, x => x = xB x.b
 | .str, x => ∃ s : ByteArray, x = xS s ∧ s.size ≤ maxLen
def XsOk : List Lf → Nat → (Nat → X) → Prop
 | [], _, _ => True
 | l :: r, j, x => lfX l (x j) ∧ XsOk r (j + 1) x
theorem lfS_ok {ρ : Env} {ls : Ls} {l : Lf} {v : Value} {j : Nat} (h : LfOk l v) (hx : ρ.x j = valX v) : RS ρ ls (lfS j l) v ∧ lfX l (ρ.x j) := by
 cases l with
 | int k =>
  obtain ⟨n, rfl, h1, h2⟩ := h
  have e : ρ.x j = xI n := hx
  refine ⟨⟨?_, ?_, ?_⟩, ?_⟩
  ·show Value.int k n = .int k (ρ.x j).i; rw [e]; rfl
  ·show _ ≤ (ρ.x j).i; rw [e]; exact h1
  ·show (ρ.x j).i ≤ _; rw [e]; exact h2
  ·rw [e]; exact ⟨rfl, h1, h2⟩
 | bool =>
  obtain ⟨b, rfl⟩ := h
  have e : ρ.x j = xB b := hx
  refine ⟨?_, ?_⟩
  ·show Value.bool b = .bool (ρ.x j).b; rw [e]; rfl
  ·rw [e]; exact rfl
 | str =>
  obtain ⟨s, rfl, h1⟩ := h
  have e : ρ.x j = xS s := hx
  refine ⟨⟨s, rfl, ?_, ?_, ?_⟩, ?_⟩
  ·show (ρ.x j).v = _; rw [e]; rfl
  ·show (ρ.x j).i = _; rw [e]; rfl
  ·have h1 : s.size ≤ maxLen := h1; omega
  ·rw [e]; exact ⟨s, rfl, h1⟩
theorem lfSs_ok {ρ : Env} {ls : Ls} : ∀ {ks : List Lf} {vs : List Value} {j : Nat}, All2 LfOk ks vs → (∀ i v, vs[i]? = some v → ρ.x (j + i) = valX v) → All2 (RS ρ ls) (lfSs ks j) vs ∧ XsOk ks j ρ.x
 | [], [], _, _, _ => ⟨trivial, trivial⟩
 | k :: ks, v :: vs, j, h, hx => by
  obtain ⟨h1, h2⟩ := lfS_ok (ls := ls) h.1 (hx 0 v rfl)
  obtain ⟨h3, h4⟩ := lfSs_ok (ls := ls) (j := j + 1) h.2 fun i u hu => by
   have := hx (i + 1) u (by simpa using hu)
   rwa [show j + (i + 1) = j + 1 + i by omega] at this
  exact ⟨⟨h1, h3⟩, h2, h4⟩
def argsS (P : Program) : List TypeId → Nat → Option (List SV × List Lf)
 | [], _ => some ([], [])
 | t :: ts, j => match leaves P 20 t with
  | none => none
  | some ks => match argsS P ts (j + ks.length) with
   | none => none
   | some (vs, ls) => match P.underlying t, lfSs ks j with
    | some (.struct _), cs => some (.agg cs :: vs, ks ++ ls)
    | some (.array _ _), cs => some (.agg cs :: vs, ks ++ ls)
    | some (.int _), [c] => some (.c c :: vs, ks ++ ls)
    | some .bool, [c] => some (.c c :: vs, ks ++ ls)
    | some .string, [c] => some (.c c :: vs, ks ++ ls)
    | _, _ => none
theorem XsOk.app {x : Nat → X} : ∀ {k l : List Lf} {j : Nat}, XsOk k j x → XsOk l (j + k.length) x → XsOk (k ++ l) j x
 | [], _, j, _, h => by simpa using h
 | _ :: r, l, j, h, h' => ⟨h.1, XsOk.app h.2 (by rwa [List.length_cons, show j + (r.length + 1) = j + 1 + r.length by omega] at h')⟩
theorem argsS_ok {ρ : Env} {r : Reach} {b0 : Nat} : ∀ {ts : List TypeId} {vs : List Value} {ds : List (DataW H)} {ps : List MemPlace} {j : Nat} {svs : List SV} {ks : List Lf}, DataW.TrodAll enc P w base sp held ts vs ds ps → (∀ (i : Nat) t v, ts[i]? = some t → vs[i]? = some v → Value.okWide P w r b0 t v) → argsS P ts j = some (svs, ks) →
 (∀ i v, (vs.flatMap fun v => v.cells.toList)[i]? = some v → ρ.x (j + i) = valX v) → All2 (RV ρ []) svs vs ∧ XsOk ks j ρ.x
 | [], [], _, _, j, svs, ks, _, _, h, _ => by cases h; exact ⟨trivial, trivial⟩
 | [], _ :: _, _, _, _, _, _, h, _, _, _ => by simp [DataW.TrodAll] at h
 | t :: ts, [], _, _, _, _, _, h, _, _, _ => by simp [DataW.TrodAll] at h
 | t :: ts, v :: vs, [], _, _, _, _, h, _, _, _ => by simp [DataW.TrodAll] at h
 | t :: ts, v :: vs, d :: ds, ps, j, svs, ks, h, hval, hs, hx => by
  obtain ⟨p, q, ⟨fuel, h1⟩, h2, _⟩ := h
  simp only [argsS] at hs
  split at hs
  ·cases hs
  ·rename_i l hl
   split at hs
   ·cases hs
   ·rename_i svs' ks' hrec
    have hall := trod_leaves hl h1
    have hlen := hall.len
    obtain ⟨i1, i2⟩ := argsS_ok (j := j + l.length) h2 (fun i t v ht hv => hval (i + 1) t v (by simpa using ht) (by simpa using hv)) hrec fun i u hu => by
     have := hx (l.length + i) u (by
      rw [List.flatMap_cons, List.getElem?_append_right (by rw [← hlen]; omega), ← hlen, show l.length + i - l.length = i by omega]; exact hu)
     rwa [show j + (l.length + i) = j + l.length + i by omega] at this
    obtain ⟨c1, c2⟩ := lfSs_ok (ρ := ρ) (ls := []) (j := j) hall fun i u hu => hx i u (by
     rw [List.flatMap_cons, List.getElem?_append_left (List.getElem?_eq_some_iff.1 hu).1]; exact hu)
    have hok := hval 0 t v rfl rfl
    have hagg : (∃ cs, v = .agg cs) → RV ρ [] (.agg (lfSs l j)) v := fun ⟨cs, e⟩ => by subst e; exact ⟨cs.toList, by simp, c1⟩
    have hone : ∀ {c : SC}, lfSs l j = [c] → v.cells.toList = [v] → RS ρ [] c v := fun {c} e1 e2 => by
     rw [e1, e2] at c1; exact c1.1
    split at hs
    ·rename_i ty ht
     cases hs
     refine ⟨⟨hagg ?_, i1⟩, c2.app i2⟩
     unfold Value.okWide at hok
     rw [ht] at hok
     obtain ⟨cs, e, _⟩ := hok
     exact ⟨cs, e⟩
    ·rename_i ty ht
     cases hs
     refine ⟨⟨hagg ?_, i1⟩, c2.app i2⟩
     unfold Value.okWide at hok
     rw [ht] at hok
     obtain ⟨cs, e, _⟩ := hok
     exact ⟨cs, e⟩
    ·rename_i c ht hc
     cases hs
     obtain ⟨n, e, _⟩ := open_int ht hok ⟨fuel, h1⟩
     exact ⟨⟨hone hc (by rw [e]; rfl), i1⟩, c2.app i2⟩
    ·rename_i c ht hc
     cases hs
     obtain ⟨n, e, _⟩ := open_bool ht hok ⟨fuel, h1⟩
     exact ⟨⟨hone hc (by rw [e]; rfl), i1⟩, c2.app i2⟩
    ·rename_i c ht hc
     cases hs
     obtain ⟨n, e, _⟩ := Go.ChangeMaps.open_string ht hok ⟨fuel, h1⟩
     exact ⟨⟨hone hc (by rw [e]; rfl), i1⟩, c2.app i2⟩
    ·cases hs
theorem sameAt_below {W W' : World} (hb : Below W.heap.size W W') {p : MemPlace} (hp : p.block < W.heap.size) : W.sameAt W' p := by
 cases p with
 | cell b off => exact hb.cell (p := ⟨b, off, none⟩) hp
 | map b => exact hb.block b hp
theorem trodAll_again {W W' : World} {sp : Nat → Bool} (K : Kids P (· < P.types.size)) (hz : ∀ t e, t < P.types.size → P.underlying t = some (.slice e) → 0 < P.cellsOf e) (hb : Below W.heap.size W W') : ∀ {ts : List TypeId} {vs : List Value} {ds : List (DataW H)} {ps : List MemPlace}, (∀ t ∈ ts, t < P.types.size) →
 DataW.TrodAll enc P W 0 (fun _ => true) true ts vs ds ps → (∀ p ∈ ps, p.block < W.heap.size ∧ sp p.block = true) → DataW.TrodAll enc P W' 0 sp true ts vs ds ps
 | [], [], [], _, _, h, _ => h
 | t :: ts, v :: vs, d :: ds, _, hT, ⟨p, q, ⟨n, h1⟩, h2, e⟩, hs => by
  subst e
  refine ⟨p, q, ⟨n, ?_⟩, trodAll_again K hz hb (fun t ht => hT t (by simp [ht])) h2 fun x hx => hs x (by simp [hx]), rfl⟩
  have h3 := DataW.trod_carry (w' := W') n t _ _ h1 fun x hx => sameAt_below hb (hs x (by simp [hx])).1
  exact DataW.trod_respare K hz n t _ _ (hT t (by simp)) h3 fun x hx => (hs x (by simp [hx])).2
 | [], _ :: _, _, _, _, h, _ => by simp [DataW.TrodAll] at h
 | [], [], _ :: _, _, _, h, _ => by simp [DataW.TrodAll] at h
 | _ :: _, [], _, _, _, h, _ => by simp [DataW.TrodAll] at h
 | _ :: _, _ :: _, [], _, _, h, _ => by simp [DataW.TrodAll] at h
end
theorem trodAll_len {H : Type} {enc : TypeId × Value → H} {P : Program} {w : World} {base : Nat} {sp : Nat → Bool} {held : Bool} : ∀ {ts : List TypeId} {vs : List Value} {ds : List (DataW H)} {ps : List MemPlace}, DataW.TrodAll enc P w base sp held ts vs ds ps → ds.length = ts.length
 | [], [], [], _, _ => rfl
 | _ :: _, _ :: _, _ :: _, _, ⟨_, _, _, h, _⟩ => by simp [trodAll_len h]
 | [], _ :: _, _, _, h => by simp [DataW.TrodAll] at h
 | [], [], _ :: _, _, h => by simp [DataW.TrodAll] at h
 | _ :: _, [], _, _, h => by simp [DataW.TrodAll] at h
 | _ :: _, _ :: _, [], _, h => by simp [DataW.TrodAll] at h
theorem law_post {H : Type} {enc : TypeId × Value → H} {P : Program} {f : Func} {s : ChangeSpec} {W W' : World} {args : Array Value} {ds gs : List (DataW H)} {before : List MemPlace} {tb : TypeId}
 (K : Kids P (· < P.types.size)) (hz : ∀ t e, t < P.types.size → P.underlying t = some (.slice e) → 0 < P.cellsOf e) (hT : ∀ t ∈ f.params.toList, t < P.types.size)
 (hv : s.vars = []) (hr : f.resultTypes = #[tb]) (htb : P.underlying tb = some .bool) (hfn : s.fn H ds = { results := [.lit (.bool true)], args := ds })
 (hW : DataW.Whole enc P f.params.toList s.vars false W args.toList ds gs before) (hb : Below W.heap.size W W') : s.post enc P f false true false false W args (.bool true) W' := by
 have hW' := hW
 have hlt := hW.lt
 obtain ⟨p, q, hA, hV, rfl, hfz, hnd⟩ := hW
 rw [hv] at hV
 obtain ⟨rfl, rfl⟩ := trodVars_none hV
 have hfn' : s.fn H (ds ++ []) = { results := [.lit (.bool true)], args := ds } := by rw [List.append_nil]; exact hfn
 refine ⟨ds, [], _, [], p, [], hW', ?_, ?_, ?_, hb.frame _, fun h => by cases h⟩
 ·rw [hfn', hr]
  exact trodAll_mk1 (shut_bool htb _)
 ·rw [hfn']
  exact trodAll_again K hz hb hT hA fun x hx => ⟨hlt x (by simpa using hx), by simpa using hlt x (by simpa using hx)⟩
 ·rw [hfn', hv]; rfl
end Vc
end Go.Proofs.YtelbilnnmmbmdaaDoor
namespace Go.Proofs.YtelbilnnmmbmdaaDoor
namespace Vc
open Go Go.RowKit
set_option linter.unusedVariables false
def ckEq (ρ : Env) (x : X) : Ck → SC → Prop
 | .int k lo hi, .int k' e _ _ => if k = k' then ((ev ρ e).x.i = x.i ∧ lo ≤ x.i ∧ x.i ≤ hi) else False
 | .bool, .bool e => (evP ρ e ↔ x.b = true)
 | .str hi, .cst (.string s) => x = xS s ∧ (s.size : Int) ≤ hi
 | _, _ => False
def ckEqL (ρ : Env) (f : Nat → X) : Nat → List Ck → List SC → Prop
 | _, [], [] => True
 | j, [r], [s] => ckEq ρ (f j) r s
 | j, r :: rs, s :: ss => ckEq ρ (f j) r s ∧ ckEqL ρ f (j + 1) rs ss
 | _, _, _ => False
def ckEqT (ρ : Env) (f : Nat → X) : Nat → List (Bool × List Ck) → List (Bool × List SC) → Prop
 | _, [], [] => True
 | j, (true, rs) :: l, (true, ss) :: m => ckEqL ρ f j rs ss ∧ ckEqT ρ f (j + rs.length) l m
 | j, (false, [r]) :: l, (false, [s]) :: m => ckEq ρ (f j) r s ∧ ckEqT ρ f (j + 1) l m
 | _, _, _ => False
def resEq (ρ : Env) (f : Nat → X) (j : Nat) : Rs → SV → Prop
 | .one r, .c s => ckEq ρ (f j) r s
 | .agg rs, .agg ss => ckEqL ρ f j rs ss
 | .tup l, .tup m => ckEqT ρ f j l m
 | _, _ => False
theorem ckEq_ok {ρ : Env} {ls : Ls} {x : X} {r : Ck} {s : SC} {v : Value} (h : ckEq ρ x r s) (hr : RS ρ ls s v) : ckOk x r v := by
 unfold ckEq at h
 split at h
 ·split at h
  ·rename_i hk
   subst hk
   obtain ⟨h1, h2, h3⟩ := h
   exact ⟨by rw [hr.1, ← h1], h2, h3⟩
  ·exact h.elim
 ·rename_i e
  have hr' : v = .bool (evB ρ e) := hr
  show v = .bool x.b
  rw [hr']
  congr 1
  have h' := (evP_iff ρ e).symm.trans h
  show (ev ρ e).x.b = x.b
  cases h1 : (ev ρ e).x.b <;> cases h2 : x.b
  ·rfl
  ·rw [h1, h2] at h'; exact absurd (h'.2 rfl) (by simp)
  ·rw [h1, h2] at h'; exact absurd (h'.1 rfl) (by simp)
  ·rfl
 ·rename_i hi s
  obtain ⟨h1, h2⟩ := h
  have hr' : v = .string s := hr
  exact ⟨s, hr', by rw [h1]; rfl, by rw [h1]; rfl, h2⟩
 ·exact h.elim
theorem ckEqL_ok {ρ : Env} {ls : Ls} {f : Nat → X} : ∀ {rs : List Ck} {j : Nat} {ss : List SC} {vs : List Value}, ckEqL ρ f j rs ss → All2 (RS ρ ls) ss vs → ckL f j rs vs
 | [], _, [], [], _, _ => trivial
 | [r], _, [s], [v], h, hr => ⟨ckEq_ok h hr.1, trivial⟩
 | r :: r' :: rs, j, s :: s' :: ss, v :: vs, h, hr => ⟨ckEq_ok h.1 hr.1, ckEqL_ok (rs := r' :: rs) (ss := s' :: ss) h.2 hr.2⟩
 | [], _, [], _ :: _, _, hr => hr.elim
 | [], _, _ :: _, _, h, _ => h.elim
 | [_], _, [], _, h, _ => h.elim
 | _ :: _ :: _, _, [], _, h, _ => h.elim
 | [_], _, [_], [], _, hr => hr.elim
 | [_], _, [_], _ :: _ :: _, _, hr => hr.2.elim
 | [_], j, _ :: s' :: ss, _, h, _ => by simp [ckEqL] at h
 | _ :: _ :: _, _, [_], _, h, _ => by simp [ckEqL] at h
 | _ :: _ :: _, _, _ :: _ :: _, [], _, hr => hr.elim
theorem ckEqT_ok {ρ : Env} {ls : Ls} {f : Nat → X} : ∀ {l : List (Bool × List Ck)} {j : Nat} {m : List (Bool × List SC)} {vs : List Value}, ckEqT ρ f j l m → All2 (RE ρ ls) m vs → ckT f j l vs
 | [], _, [], [], _, _ => trivial
 | (true, rs) :: l, j, (true, ss) :: m, v :: vs, h, hr => by
  obtain ⟨⟨us, rfl, h1⟩, h2⟩ := hr
  exact ⟨⟨us, rfl, ckEqL_ok h.1 h1⟩, ckEqT_ok h.2 h2⟩
 | (false, [r]) :: l, j, (false, [s]) :: m, v :: vs, h, hr => ⟨ckEq_ok h.1 hr.1, ckEqT_ok h.2 hr.2⟩
 | [], _, [], _ :: _, _, hr => hr.elim
 | [], _, _ :: _, _, h, _ => h.elim
 | _ :: _, _, [], _, h, _ => by simp [ckEqT] at h
 | (true, _) :: _, _, (false, _) :: _, _, h, _ => by simp [ckEqT] at h
 | (false, _) :: _, _, (true, _) :: _, _, h, _ => by simp [ckEqT] at h
 | (true, _) :: _, _, (true, _) :: _, [], _, hr => hr.elim
 | (false, [_]) :: _, _, (false, [_]) :: _, [], _, hr => hr.elim
 | (false, []) :: _, _, (false, _) :: _, _, h, _ => by simp [ckEqT] at h
 | (false, _ :: _ :: _) :: _, _, (false, _) :: _, _, h, _ => by simp [ckEqT] at h
 | (false, [_]) :: _, _, (false, []) :: _, _, h, _ => by simp [ckEqT] at h
 | (false, [_]) :: _, _, (false, _ :: _ :: _) :: _, _, h, _ => by simp [ckEqT] at h
theorem resEq_ok {ρ : Env} {ls : Ls} {f : Nat → X} {j : Nat} {r : Rs} {s : SV} {v : Value} (h : resEq ρ f j r s) (hr : RV ρ ls s v) : resOk f j r v := by
 unfold resEq at h
 split at h
 ·exact ckEq_ok h hr
 ·obtain ⟨us, rfl, h1⟩ := hr; exact ⟨us, rfl, ckEqL_ok h h1⟩
 ·obtain ⟨us, rfl, h1⟩ := hr; exact ⟨us, rfl, ckEqT_ok h h1⟩
 ·exact h.elim
def ctrG (f : Nat → X) (j : Nat) (r : Rs) : Env → Fm → Prop
 | _, .tru => True
 | _, .fls => False
 | ρ, .and a b => ctrG f j r ρ a ∧ ctrG f j r ρ b
 | ρ, .imp g a => evP ρ g → ctrG f j r ρ a
 | ρ, .tst e => evP ρ e
 | ρ, .pre k A => ρ.p k (ev ρ A).l
 | ρ, .leaf v _ => resEq ρ f j r v
 | ρ, .all m a => ∀ y : X, ctrG f j r (ρ.setx m y) a
 | ρ, .impP k A a => ρ.p k (ev ρ A).l → ctrG f j r ρ a
 | ρ, .rowH sh R n hi a => (0 ≤ evI ρ n ∧ evI ρ n ≤ hi ∧ RowOk sh (evR ρ R) (evI ρ n).toNat) → ctrG f j r ρ a
def Fm.ctr (F : Fm) (ρ : Env) (f : Nat → X) (j : Nat) (r : Rs) : Prop := ctrG f j r ρ F
theorem ctrG_holds {f : Nat → X} {j : Nat} {r : Rs} {B : Nat} {w0 : World} : ∀ {F : Fm} {ρ : Env}, ctrG f j r ρ F → F.holds (fun ρ => LeafOk ρ B w0 fun e w' => ∃ v, e = .returned v ∧ resOk f j r v ∧ Below w0.heap.size w0 w') ρ
 | .tru, _, _ => trivial
 | .fls, _, h => h
 | .and _ _, _, h => ⟨ctrG_holds h.1, ctrG_holds h.2⟩
 | .imp g a, _, h => fun hg => ctrG_holds (F := a) (h hg)
 | .tst _, _, h => h
 | .pre _ _, _, h => h
 | .leaf v hp, ρ, h => fun k ls w' val hh hr => ⟨val, rfl, resEq_ok (ρ := ρ) (ls := ls) h (by rw [RV_wk] at hr; exact hr), by have := hh.below; rwa [hh.base] at this⟩
 | .all m a, ρ, h => fun y => ctrG_holds (F := a) (h y)
 | .impP _ _ a, _, h => fun hp => ctrG_holds (F := a) (h hp)
 | .rowH _ _ _ _ a, _, h => fun hp => ctrG_holds (F := a) (h hp)
theorem ctr_holds {ρ : Env} {f : Nat → X} {j : Nat} {r : Rs} {B : Nat} {w0 : World} {F : Fm} (h : F.ctr ρ f j r) : F.holds (fun ρ => LeafOk ρ B w0 fun e w' => ∃ v, e = .returned v ∧ resOk f j r v ∧ Below w0.heap.size w0 w') ρ := ctrG_holds h
def ckV (j : Nat) : Ck → SC
 | .int k lo hi => .int k (if lo = hi then .ic lo else .var j) lo hi
 | .bool => .bool (.var j)
 | .ln hi => .ln (.var j) hi
 | .cst v => .cst v
 | .str hi => .str (.var j) hi
def ckVs : List Ck → Nat → List SC
 | [], _ => []
 | c :: r, j => ckV j c :: ckVs r (j + 1)
def shS : List Sh → Nat → List SV
 | [], _ => []
 | .one k :: sh, j => .c (ckV j k) :: shS sh (j + 1)
 | .agg ks :: sh, j => .agg (ckVs ks j) :: shS sh (j + ks.length)
theorem ckI_ev {ρ : Env} {j : Nat} {lo hi : Int} {d : X} (e : ρ.x j = d) (h2 : lo ≤ d.i) (h3 : d.i ≤ hi) : evI ρ (if lo = hi then .ic lo else .var j) = d.i := by
 split
 ·show lo = d.i; omega
 ·show (ρ.x j).i = d.i; rw [e]
theorem ckVs_ok {ρ : Env} {ls : Ls} : ∀ {ks : List Ck} {ds : Ds} {j : Nat}, kdR ks ds → (∀ i x, ds[i]? = some x → ρ.x (j + i) = x) → All2 (RS ρ ls) (ckVs ks j) (kdV ks ds)
 | [], _, _, _, _ => trivial
 | .int k lo hi :: ks, d :: ds, j, h, hx => by
  obtain ⟨⟨_, h2, h3⟩, h4⟩ := h
  have e : ρ.x j = d := hx 0 d rfl
  refine ⟨⟨?_, ?_, ?_⟩, ckVs_ok h4 fun i x hi => by have := hx (i + 1) x (by simpa using hi); rwa [show j + (i + 1) = j + 1 + i by omega] at this⟩
  ·show Value.int k d.i = .int k (evI ρ (if lo = hi then .ic lo else .var j)); rw [ckI_ev e h2 h3]
  ·show lo ≤ evI ρ (if lo = hi then .ic lo else .var j); rw [ckI_ev e h2 h3]; exact h2
  ·show evI ρ (if lo = hi then .ic lo else .var j) ≤ hi; rw [ckI_ev e h2 h3]; exact h3
 | .bool :: ks, d :: ds, j, h, hx => by
  have e : ρ.x j = d := hx 0 d rfl
  refine ⟨?_, ckVs_ok h.2 fun i x hi => by have := hx (i + 1) x (by simpa using hi); rwa [show j + (i + 1) = j + 1 + i by omega] at this⟩
  show Value.bool d.b = .bool (ρ.x j).b; rw [e]
 | .int .. :: _, [], _, h, _ => h.elim
 | .bool :: _, [], _, h, _ => h.elim
 | .ln _ :: _, [], _, h, _ => h.elim
 | .ln _ :: _, _ :: _, _, h, _ => h.elim
 | .cst _ :: _, [], _, h, _ => h.elim
 | .cst _ :: _, _ :: _, _, h, _ => h.elim
 | .str _ :: _, [], _, h, _ => h.elim
 | .str _ :: _, _ :: _, _, h, _ => h.elim
theorem kdV_len : ∀ {ks : List Ck} {ds : Ds}, kdR ks ds → (kdV ks ds).length = ks.length
 | [], _, _ => rfl
 | .int .. :: ks, _ :: _, h => by simp [kdV, kdV_len h.2]
 | .bool :: ks, _ :: _, h => by simp [kdV, kdV_len h.2]
 | .int .. :: _, [], h => h.elim
 | .bool :: _, [], h => h.elim
 | .ln _ :: _, [], h => h.elim
 | .ln _ :: _, _ :: _, h => h.elim
 | .cst _ :: _, [], h => h.elim
 | .cst _ :: _, _ :: _, h => h.elim
 | .str _ :: _, [], h => h.elim
 | .str _ :: _, _ :: _, h => h.elim
theorem shS_ok {ρ : Env} {ls : Ls} : ∀ {sh : List Sh} {ds : Ds} {j : Nat}, argR sh ds → (∀ i x, ds[i]? = some x → ρ.x (j + i) = x) → All2 (RV ρ ls) (shS sh j) (argV sh ds)
 | [], _, _, _, _ => trivial
 | .one k :: sh, ds, j, h, hx => by
  obtain ⟨h1, h2⟩ := h
  have a1 := ckVs_ok (ρ := ρ) (ls := ls) h1 hx
  have hl := kdV_len h1
  have a2 := shS_ok (ρ := ρ) (ls := ls) (j := j + 1) h2 fun i x hi => by
   rw [List.getElem?_drop] at hi
   have := hx (1 + i) x hi
   rwa [show j + (1 + i) = j + 1 + i by omega] at this
  show All2 (RV ρ ls) (.c (ckV j k) :: shS sh (j + 1)) (kdV [k] ds ++ argV sh (ds.drop 1))
  match hk : kdV [k] ds, hl with
  | [v], _ =>
   rw [hk] at a1
   exact ⟨a1.1, a2⟩
 | .agg ks :: sh, ds, j, h, hx => by
  obtain ⟨h1, h2⟩ := h
  exact ⟨⟨_, rfl, ckVs_ok h1 hx⟩, shS_ok h2 fun i x hi => by
   rw [List.getElem?_drop] at hi
   have := hx (ks.length + i) x hi
   rwa [show j + (ks.length + i) = j + ks.length + i by omega] at this⟩
theorem ctr_of {P : Program} {ρ : Env} {cf : Cfg} {c : Ctr} (hc : CfgOk P ρ cf) {fn : Func} (hf : P.funcs[c.f]? = some fn) (hb : fn.body = some (bodyC fn)) (n : Nat)
 (h : ∀ ds, argR c.args ds → (walkF P cf fn n (shS c.args 0)).ctr { ρ with x := fun j => ds.getD j (xI 0) } (fun j => ρ.f j ds) c.fs c.res) : CtrOk P ρ c := by
 intro ds w hg hr _
 refine call_ok (ρ := { ρ with x := fun j => ds.getD j (xI 0) }) (hc.withX _) hf hb n hg (shS_ok hr fun i x hi => ?_) (ctr_holds (h ds hr))
 show ds.getD (0 + i) (xI 0) = x
 rw [Nat.zero_add, List.getD_eq_getElem?_getD, hi]; rfl
theorem ctr_split {P : Program} {ρ : Env} {c : Ctr} (h : ∀ ds, argR c.args ds → ∃ as, argR as ds ∧ argV as ds = argV c.args ds ∧ CtrOk P ρ { c with args := as }) : CtrOk P ρ c := by
 intro ds w hg hr hp
 obtain ⟨as, h1, h2, h3⟩ := h ds hr
 have := h3 ds w hg h1 hp
 rw [h2] at this
 exact this
end Vc
end Go.Proofs.YtelbilnnmmbmdaaDoor
