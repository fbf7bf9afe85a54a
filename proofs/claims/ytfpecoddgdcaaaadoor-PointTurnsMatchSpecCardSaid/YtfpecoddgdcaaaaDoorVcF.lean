/- Every operation that the calculus knows, and that the model carries it out likewise. -/
import Derived.Test.YtfpecoddgdcaaaaDoorVcE
namespace Go.Proofs.YtfpecoddgdcaaaaDoor
namespace Vc
open Go Go.RowKit

/-- Kinds of the parts that a contract takes and gives; 'ln': a list of which the length alone is told. -/
inductive Ck where
  | int (k : IntKind) (lo hi : Int) | bool | ln (hi : Int) | cst (v : Value) | str (hi : Int)
  deriving Inhabited
inductive Sh where
  | one (k : Ck) | agg (ks : List Ck)
  deriving Inhabited
inductive Rs where
  | one (r : Ck) | agg (rs : List Ck) | tup (l : List (Bool × List Ck))
  deriving Inhabited
structure Ctr where
  f : FuncId
  args : List Sh
  res : Rs
  pre : Option Nat
  fs : Nat
  deriving Inhabited

structure Cfg where
  eqT : List (TypeId × List Kd)
  ctrs : List Ctr
  qctrs : List Ctr
  fns : List (FuncId × Func)
  F : Option (Nat → List X → X)
  globs : List (Nat × List Value)
  sums : List FuncId := []

def lookEq : List (TypeId × List Kd) → TypeId → Option (List Kd)
  | [], _ => none
  | (u, ks) :: r, t => if u == t then some ks else lookEq r t
def EqOk (P : Program) (cf : Cfg) : Prop := ∀ t ks, lookEq cf.eqT t = some ks → FlatEq P t ks

def isBoolT (P : Program) (t : TypeId) : Bool := match P.underlying t with | some .bool => true | _ => false
theorem isBoolT_ok {P : Program} {t : TypeId} (h : isBoolT P t = true) : P.underlying t = some .bool := by
  unfold isBoolT at h; split at h
  · assumption
  · cases h

def sbin (P : Program) (cf : Cfg) (op : BinOp) (t : TypeId) (x y : SV) : Option SV :=
  match x, y with
  | .c (.int k a l1 h1), .c (.int k' b l2 h2) =>
    (match op with
      | .shl => (sshl k a l1 h1 b l2 h2).map .c
      | .shr => (sshr k a l1 h1 b l2 h2).map .c
      | op => if k = k' then (binInt op k a l1 h1 b l2 h2).map .c else none)
  | .c (.bool a), .c (.bool b) => if isBoolT P t then (match op with
      | .eql => some (.c (.bool (eIff a b)))
      | .neq => some (.c (.bool (eNot (eIff a b))))
      | _ => none) else none
  | .c (.cst (.string a)), .c (.cst (.string b)) => (match op with
      | .eql => some (.c (.bool (.bc (a.toList == b.toList))))
      | .neq => some (.c (.bool (.bc (!(a.toList == b.toList)))))
      | .add => if a.size + b.size ≤ 1000 then some (.c (.cst (.string (a ++ b)))) else none
      | _ => none)
  | .c (.str a _), .c (.str b _) => (match op with
      | .eql => some (.c (.bool (.veq a b)))
      | .neq => some (.c (.bool (.not (.veq a b))))
      | _ => none)
  | .c (.str a _), .c (.cst (.string b)) => (match op with
      | .eql => some (.c (.bool (.veq a (.cv (.string b)))))
      | .neq => some (.c (.bool (.not (.veq a (.cv (.string b))))))
      | _ => none)
  | .c (.cst (.string a)), .c (.str b _) => (match op with
      | .eql => some (.c (.bool (.veq (.cv (.string a)) b)))
      | .neq => some (.c (.bool (.not (.veq (.cv (.string a)) b))))
      | _ => none)
  | .agg xs, .agg ys => (match lookEq cf.eqT t with
    | some ks => (match eqCells ks xs ys with
      | some e => (match op with
        | .eql => some (.c (.bool e))
        | .neq => some (.c (.bool (eNot e)))
        | _ => none)
      | none => none)
    | none => none)
  | _, _ => none

section
variable {P : Program} {ρ : Env} {B : Nat} {w0 w : World} {ls : Ls} {hp : SH} {tm : Tms} {a : Act} {G : E} {cf : Cfg}

theorem sbin_ok {op : BinOp} {t : TypeId} {x y s : SV} {u v : Value} {X Y : Operand} (h : sbin P cf op t x y = some s) (hc : EqOk P cf) (hx : RV ρ ls x u) (hy : RV ρ ls y v) :
    ∃ z, ((do eqGuard op t X Y u v; binOp op t u v) : Sem Value).run P w = .ok z w ∧ RV ρ ls s z := by
  unfold sbin at h
  split at h
  · rename_i k e l1 h1 k' b l2 h2
    obtain ⟨rfl, x2, x3⟩ := hx
    obtain ⟨rfl, y2, y3⟩ := hy
    rw [eqGuard_at_int]
    simp only [Sem.run_bind, Sem.run_pure, Result.andThen_ok]
    split at h
    · rw [Option.map_eq_some_iff] at h
      obtain ⟨z, hz, rfl⟩ := h
      exact sshl_ok hz x2 x3 y2 y3
    · rw [Option.map_eq_some_iff] at h
      obtain ⟨z, hz, rfl⟩ := h
      exact sshr_ok hz x2 x3 y2 y3
    · split at h
      · rename_i hk
        subst hk
        rw [Option.map_eq_some_iff] at h
        obtain ⟨z, hz, rfl⟩ := h
        exact binInt_ok hz x2 x3 y2 y3
      · cases h
  · rename_i e b
    have hx' : u = .bool (evB ρ e) := hx
    have hy' : v = .bool (evB ρ b) := hy
    subst hx' hy'
    rw [eqGuard_at_bool]
    simp only [Sem.run_bind, Sem.run_pure, Result.andThen_ok]
    split at h
    · rename_i ht
      have heq : (Op.equal t (.bool (evB ρ e)) (.bool (evB ρ b))).run P w = .ok (evB ρ e == evB ρ b) w := by
        simp only [Op.equal, Op.maxDepth]
        exact run_equalIn_bool' w 9999 t _ _ (isBoolT_ok ht)
      split at h
      · cases h
        refine ⟨.bool (evB ρ e == evB ρ b), ?_, ?_⟩
        · simp only [binOp]; simp [heq]
        · show Value.bool _ = .bool (ev ρ (eIff e b)).x.b
          rw [ev_eIff]
      · cases h
        refine ⟨.bool (!(evB ρ e == evB ρ b)), ?_, ?_⟩
        · simp only [binOp]; simp [heq]
        · show Value.bool _ = .bool (ev ρ (eNot (eIff e b))).x.b
          rw [ev_eNot, ev_eIff]
      · cases h
    · cases h
  · rename_i x y
    have hx' : u = .string x := hx
    have hy' : v = .string y := hy
    subst hx' hy'
    rw [eqGuard_at_string]
    simp only [Sem.run_bind, Sem.run_pure, Result.andThen_ok]
    split at h
    · cases h
      exact ⟨_, by simp only [binOp, Op.stringOp]; rfl, rfl⟩
    · cases h
      exact ⟨_, by simp only [binOp, Op.stringOp]; rfl, rfl⟩
    · split at h
      · rename_i hsz
        cases h
        refine ⟨.string (x ++ y), ?_, rfl⟩
        have : ¬ ((x.size + y.size : Nat) : Int) > IntKind.i64.max := by rw [IntKind.max_i64]; omega
        simp only [binOp, Op.stringOp]
        rw [if_neg this]; rfl
      · cases h
    · cases h
  · obtain ⟨x, rfl, hx, _⟩ := hx
    obtain ⟨y, rfl, hy, _⟩ := hy
    rw [eqGuard_at_string]
    simp only [Sem.run_bind, Sem.run_pure, Result.andThen_ok]
    split at h
    · cases h
      exact ⟨_, by simp only [binOp, Op.stringOp]; rfl, by show _ = Value.bool (strEq _ _); rw [hx, hy]; rfl⟩
    · cases h
      exact ⟨_, by simp only [binOp, Op.stringOp]; rfl, by show _ = Value.bool (!strEq _ _); rw [hx, hy]; rfl⟩
    · cases h
  · rename_i y
    obtain ⟨x, rfl, hx, _⟩ := hx
    have hy : v = .string y := hy
    subst hy
    rw [eqGuard_at_string]
    simp only [Sem.run_bind, Sem.run_pure, Result.andThen_ok]
    split at h
    · cases h
      exact ⟨_, by simp only [binOp, Op.stringOp]; rfl, by show _ = Value.bool (strEq _ _); rw [hx]; rfl⟩
    · cases h
      exact ⟨_, by simp only [binOp, Op.stringOp]; rfl, by show _ = Value.bool (!strEq _ _); rw [hx]; rfl⟩
    · cases h
  · rename_i x b hi
    obtain ⟨y, rfl, hy, _⟩ := hy
    have hx : u = .string x := hx
    subst hx
    rw [eqGuard_at_string]
    simp only [Sem.run_bind, Sem.run_pure, Result.andThen_ok]
    split at h
    · cases h
      exact ⟨_, by simp only [binOp, Op.stringOp]; rfl, by show _ = Value.bool (strEq _ _); rw [hy]; rfl⟩
    · cases h
      exact ⟨_, by simp only [binOp, Op.stringOp]; rfl, by show _ = Value.bool (!strEq _ _); rw [hy]; rfl⟩
    · cases h
  · split at h
    · rename_i ks hk
      split at h
      · rename_i e he
        obtain ⟨us, rfl, hu⟩ := hx
        obtain ⟨vs, rfl, hv⟩ := hy
        obtain ⟨k1, k2, k3⟩ := eqCells_ok he hu hv
        have hf := hc _ _ hk
        have heq := hf.eq us vs w k1 k2
        split at h
        · cases h
          refine ⟨.bool (eqVs us vs), ?_, by show _ = Value.bool (evB ρ e); rw [k3]⟩
          rw [Sem.run_bind, run_eqGuard_agg w _ t X Y _ _ hf.guard]
          simp only [Result.andThen_ok, binOp]
          simp [heq]
        · cases h
          refine ⟨.bool (!eqVs us vs), ?_, by show _ = Value.bool (ev ρ (eNot e)).x.b; rw [ev_eNot]; show _ = Value.bool (!evB ρ e); rw [k3]⟩
          rw [Sem.run_bind, run_eqGuard_agg w _ t X Y _ _ hf.guard]
          simp only [Result.andThen_ok, binOp]
          simp [heq]
        · cases h
      · cases h
    · cases h
  · cases h

/-! ### Unary operators, conversions -/
def sunary (op : UnOp) : SV → Option SV
  | .c (.int k e lo hi) => (match op with | .neg => some (.c (fit k (eSub (.ic 0) e) (-hi) (-lo))) | _ => none)
  | .c (.bool e) => (match op with | .not => some (.c (.bool (eNot e))) | _ => none)
  | _ => none
theorem sunary_ok {op : UnOp} {x s : SV} {u : Value} (h : sunary op x = some s) (hx : RV ρ ls x u) : ∃ z, (Op.unary op u).run P w = .ok z w ∧ RV ρ ls s z := by
  unfold sunary at h
  split at h
  · rename_i k e lo hi
    obtain ⟨rfl, x2, x3⟩ := hx
    split at h
    · cases h
      refine ⟨.int k (k.wrap (0 - evI ρ e)), rfl, ?_⟩
      exact RS_fit (k := k) (e := eSub (.ic 0) e) (lo := -hi) (hi := -lo) (n := 0 - evI ρ e) (by show (ev ρ (eSub (.ic 0) e)).x.i = _; rw [ev_eSub]; rfl) (by omega) (by omega)
    · cases h
  · rename_i e
    have hx' : u = .bool (evB ρ e) := hx
    subst hx'
    split at h
    · cases h
      exact ⟨_, by simp [Op.unary]; rfl, by show _ = Value.bool (ev ρ (eNot e)).x.b; rw [ev_eNot]⟩
    · cases h
  · cases h

def sconv (P : Program) (src dst : TypeId) : SV → Option SV
  | .c (.int _ e lo hi) => (match P.underlying src, P.underlying dst with | some _, some (.int k') => some (.c (fit k' e lo hi)) | _, _ => none)
  | _ => none
theorem sconv_ok {src dst : TypeId} {x s : SV} {u : Value} (h : sconv P src dst x = some s) (hx : RV ρ ls x u) : ∃ z, (convert src dst u).run P w = .ok z w ∧ RV ρ ls s z := by
  unfold sconv at h
  split at h
  · rename_i k e lo hi
    obtain ⟨rfl, x2, x3⟩ := hx
    split at h
    · rename_i d k' hs hd
      cases h
      exact ⟨_, by simp [convert, run_underlying hs, run_underlying hd, Conv.intToInt], RS_fit rfl x2 x3⟩
    · cases h
  · cases h

/-! ### Addresses of fields and elements; parts of aggregates -/
def sfieldAddr (P : Program) (t : TypeId) (v : SV) (f : Nat) : Option SV :=
  match P.underlying t with
  | some (.struct fs) => (match fs[f]? with
    | some fd => (match szOf P fd.type with
      | some (_ + 1) => (match v with
        | .c (.ptr l off) => some (.c (.ptr l (off + fd.offset)))
        | .c (.gl g off) => some (.c (.gl g (off + fd.offset)))
        | .c (.pe l sz i off) => some (.c (.pe l sz i (off + fd.offset)))
        | _ => none)
      | _ => none)
    | none => none)
  | _ => none
theorem sfieldAddr_ok {t : TypeId} {x s : SV} {u : Value} {f : Nat} (h : sfieldAddr P t x f = some s) (hx : RV ρ ls x u) : ∃ z, (Instr.fieldAt t u f).run P w = .ok z w ∧ RV ρ ls s z := by
  unfold sfieldAddr at h
  split at h
  · rename_i fs ht
    split at h
    · rename_i fd hf
      split at h
      · rename_i n hn
        have hrun : ∀ a : Addr, (Instr.fieldAt t (.pointer (some a)) f).run P w = .ok (.pointer (some (a.add fd.offset))) w := fun a => by
          simp [Instr.fieldAt, run_underlying ht, hf, Instr.sureAddr, fieldPlace, run_sizeOf hn]
        split at h
        · cases h
          obtain ⟨a, ha, rfl⟩ := hx
          exact ⟨_, hrun _, a, ha, by rw [add_add]⟩
        · cases h
          have hx' : u = _ := hx
          subst hx'
          exact ⟨_, hrun _, by rw [Addr.add_lit]; rfl⟩
        · cases h
          obtain ⟨a, N, C, h1, rfl, h2⟩ := hx
          exact ⟨_, hrun _, a, N, C, h1, by rw [add_add, Nat.add_assoc], h2⟩
        · cases h
      · cases h
    · cases h
  · cases h

/-- Tests that are still owed for an index i below n. -/
def idxOb (i : E) (il ih : Int) (n : E) (nl : Int) : List E :=
  (if 0 ≤ il then [] else [.le (.ic 0) i]) ++ (if ih < nl then [] else [.lt i n])
theorem idxOb_ok {i n : E} {il ih nl : Int} (h : ∀ e ∈ idxOb i il ih n nl, evB ρ e = true) (h1 : il ≤ evI ρ i) (h2 : evI ρ i ≤ ih) (h3 : nl ≤ evI ρ n) : 0 ≤ evI ρ i ∧ evI ρ i < evI ρ n := by
  simp only [idxOb, List.mem_append] at h
  constructor
  · by_cases hc : 0 ≤ il
    · omega
    · have := h (.le (.ic 0) i) (.inl (by rw [if_neg hc]; simp))
      exact of_decide_eq_true this
  · by_cases hc : ih < nl
    · omega
    · have := h (.lt i n) (.inr (by rw [if_neg hc]; simp))
      exact of_decide_eq_true this

/-- The greatest lower bound of a row's length that is plain to see. -/
def nLow : E → Int
  | .ic n => n
  | _ => 0
theorem nLow_ok {e : E} (h : 0 ≤ evI ρ e) : nLow e ≤ evI ρ e := by
  unfold nLow; split
  · exact Int.le_refl _
  · exact h

def sindexAddr (P : Program) (hp : SH) (t : TypeId) (v i : SV) : Option (SV × List E) :=
  match i with
  | .c (.int _ e il ih) => (match P.underlying t with
    | some (.array len el) => (match szOf P el, constOf e with
      | some sz, some n => if 0 ≤ n ∧ n < len then (match v with
        | .c (.ptr l off) => some (.c (.ptr l (off + n.toNat * sz)), [])
        | .c (.gl g off) => some (.c (.gl g (off + n.toNat * sz)), [])
        | .c (.pe l z j off) => some (.c (.pe l z j (off + n.toNat * sz)), [])
        | _ => none) else none
      | _, _ => none)
    | some (.slice el) => (match szOf P el with
      | some sz => (match v with
        | .c (.sc l off n _) => (match constOf e with
          | some k => if 0 ≤ k ∧ k < n then some (.c (.ptr l (off + k.toNat * sz)), []) else none
          | none => none)
        | .c (.ow l) => (match hp[l]? with
          | some ⟨_, _, .row _ _ n _⟩ => some (.c (.pe l sz e 0), idxOb e il ih n (nLow n))
          | some ⟨_, _, .grow sz' cs⟩ => (match constOf e with
            | some k => if sz = sz' ∧ 0 ≤ k ∧ (k.toNat + 1) * sz ≤ cs.length then some (.c (.pe l sz (.ic k) 0), []) else none
            | none => none)
          | _ => none)
        | .c (.sl l z lo n _) => if z = sz then some (.c (.pe l sz (eAdd lo e) 0), idxOb e il ih n (nLow n)) else none
        | _ => none)
      | none => none)
    | _ => none)
  | _ => none
theorem run_indexArr {t el : TypeId} {len sz : Nat} {a : Addr} {k : IntKind} {n : Int} (ht : P.underlying t = some (.array len el)) (hsz : szOf P el = some sz) (hn : 0 ≤ n ∧ n < len) :
    (Instr.indexAt t (.pointer (some a)) (.int k n)).run P w = .ok (.pointer (some (a.add (n.toNat * sz)))) w := by
  simp [Instr.indexAt, run_underlying ht, Instr.sureAddr, asIntOf, hn, run_sizeOf hsz]
theorem run_indexSl {t el : TypeId} {len cap sz : Nat} {a : Addr} {k : IntKind} {n : Int} (ht : P.underlying t = some (.slice el)) (hsz : szOf P el = some sz) (hn : 0 ≤ n ∧ n < len) :
    (Instr.indexAt t (.slice (some a) len cap) (.int k n)).run P w = .ok (.pointer (some (a.add (n.toNat * sz)))) w := by
  simp [Instr.indexAt, run_underlying ht, asIntOf, hn, run_sizeOf hsz]
/-- A row that has an element has an address. -/
theorem row_addr {l : Nat} {x : HE} {sh : List Sk} {R n : E} {hi : Int} (hk : x.k = .row sh R n hi) (h : EntOk ρ B w ls l x) (hn : 0 < (evI ρ n).toNat) : ∃ a c, ls[l]? = some (.slice (some a) (evI ρ n).toNat c) := by
  unfold EntOk at h
  rw [hk] at h
  obtain ⟨A, c, h1, h2, h3, h4, h5, h6, h7, h8⟩ := h
  cases hw : x.wr
  · obtain ⟨a, rfl, _⟩ := h8 hw hn
    exact ⟨a, c, h1⟩
  · rcases (h7 hw).2 with ⟨e, e'⟩ | ⟨g, cap, cur, e, _⟩
    · omega
    · injection e with e1; subst e1; exact ⟨_, c, h1⟩
theorem row_len {l : Nat} {x : HE} {sh : List Sk} {R n : E} {hi : Int} (hk : x.k = .row sh R n hi) (h : EntOk ρ B w ls l x) : ∃ A c, ls[l]? = some (.slice A (evI ρ n).toNat c) ∧ 0 ≤ evI ρ n ∧ evI ρ n ≤ hi ∧ (evI ρ n).toNat ≤ c := by
  unfold EntOk at h
  rw [hk] at h
  obtain ⟨A, c, h1, h2, h3, h4, _⟩ := h
  exact ⟨A, c, h1, h2, h3, h4⟩

theorem sindexAddr_ok {t : TypeId} {x y s : SV} {u v : Value} {obs : List E} (h : sindexAddr P hp t x y = some (s, obs)) (hh : HOk ρ B w0 ls hp w) (hob : ∀ e ∈ obs, evB ρ e = true) (hx : RV ρ ls x u) (hy : RV ρ ls y v) : ∃ z, (Instr.indexAt t u v).run P w = .ok z w ∧ RV ρ ls s z := by
  unfold sindexAddr at h
  split at h
  · rename_i k e il ih
    obtain ⟨rfl, y2, y3⟩ := hy
    split at h
    · rename_i len el ht
      split at h
      · rename_i sz n hsz hc
        have he := constOf_ok hc
        subst he
        split at h
        · rename_i hn
          have hn' : 0 ≤ evI ρ (.ic n) ∧ evI ρ (.ic n) < len := hn
          split at h
          · cases h
            obtain ⟨a, ha, rfl⟩ := hx
            exact ⟨_, run_indexArr ht hsz hn', a, ha, by rw [add_add]; rfl⟩
          · cases h
            have hx' : u = _ := hx
            subst hx'
            exact ⟨_, run_indexArr ht hsz hn', by rw [Addr.add_lit]; rfl⟩
          · cases h
            obtain ⟨a, N, C, h1, rfl, h2⟩ := hx
            exact ⟨_, run_indexArr ht hsz hn', a, N, C, h1, by rw [add_add, Nat.add_assoc]; rfl, h2⟩
          · cases h
        · cases h
      · cases h
    · rename_i el ht
      split at h
      · rename_i sz hsz
        split at h
        · rename_i l off n cap
          split at h
          · rename_i k' hc
            have he := constOf_ok hc
            subst he
            split at h
            · rename_i hn
              cases h
              obtain ⟨_, a, ha, rfl⟩ := hx
              have hn' : 0 ≤ evI ρ (.ic k') ∧ evI ρ (.ic k') < n := hn
              exact ⟨_, run_indexSl ht hsz hn', a, ha, by rw [add_add]; rfl⟩
            · cases h
          · cases h
        · rename_i l
          split at h
          · rename_i b ty sh R n hi hl
            cases h
            obtain ⟨hx1, _⟩ := hx
            have hent := hh.ent l _ hl
            obtain ⟨A, c, g1, g2, g3, g4⟩ := row_len rfl hent
            obtain ⟨i1, i2⟩ := idxOb_ok hob y2 y3 (nLow_ok g2)
            obtain ⟨a, c', e1⟩ := row_addr rfl hent (by omega)
            rw [hx1] at e1
            cases e1
            exact ⟨_, run_indexSl ht hsz ⟨i1, by omega⟩, a, _, c', hx1, by rw [Nat.add_zero], i1, by omega⟩
          · rename_i b ty sz' cs hl
            split at h
            · rename_i kk hc
              have he := constOf_ok hc
              subst he
              split at h
              · rename_i hif
                obtain ⟨rfl, hk0, hkl⟩ := hif
                cases h
                obtain ⟨hx1, _⟩ := hx
                obtain ⟨_, h0, A, n, c, vs, h1, h2, h3, h4⟩ := hh.ent l _ hl
                rw [hx1] at h1
                cases h1
                have hlen := h3.len
                have hkn : kk.toNat < n := by
                  have hm : (kk.toNat + 1) * sz ≤ n * sz := by omega
                  exact Nat.le_of_mul_le_mul_right hm h0
                have hA : ∃ a, A = some a := by
                  rcases h4.2 with ⟨e, e'⟩ | ⟨g, cap, cur, e, _⟩
                  · omega
                  · injection e with e1; exact ⟨_, e1⟩
                obtain ⟨a, rfl⟩ := hA
                exact ⟨_, run_indexSl ht hsz ⟨hk0, by show kk < _; omega⟩, a, n, c, hx1, by rw [Nat.add_zero], hk0, hkn⟩
              · cases h
            · cases h
          · cases h
        · rename_i l z lo n hi
          split at h
          · rename_i hz
            subst hz
            cases h
            obtain ⟨A, N, C, A', c, g1, rfl, g2, g3, g4, g5, g6, g7⟩ := hx
            obtain ⟨i1, i2⟩ := idxOb_ok hob y2 y3 (nLow_ok g3)
            obtain ⟨a, rfl, rfl⟩ := g7 (by omega)
            have e : evI ρ (eAdd lo e) = evI ρ lo + evI ρ e := ev_eAdd ρ _ _
            refine ⟨_, run_indexSl ht hsz ⟨i1, by omega⟩, a, N, C, g1, ?_, by omega, by omega⟩
            rw [add_add, e, Nat.add_zero, ← Nat.add_mul]
            congr 4
            omega
          · cases h
        · cases h
      · cases h
    · cases h
  · cases h

def sfield (P : Program) (t : TypeId) (v : SV) (f : Nat) : Option SV :=
  match v, P.underlying t with
  | .agg cs, some (.struct fs) => (match fs[f]? with | some fd => spart P fd.type cs fd.offset | none => none)
  | _, _ => none
theorem sfield_ok {t : TypeId} {x s : SV} {u : Value} {f : Nat} (h : sfield P t x f = some s) (hx : RV ρ ls x u) : ∃ z, (Instr.field t u f).run P w = .ok z w ∧ RV ρ ls s z := by
  unfold sfield at h
  split at h
  · rename_i cs fs ht
    split at h
    · rename_i fd hf
      obtain ⟨vs, rfl, hr⟩ := hx
      obtain ⟨z, hz, hr'⟩ := spart_ok h hr w
      exact ⟨z, by simp [Instr.field, run_underlying ht, hf, asAgg, hz], hr'⟩
    · cases h
  · cases h

def sindex (P : Program) (t : TypeId) (v i : SV) : Option SV :=
  match v, i, P.underlying t with
  | .agg cs, .c (.int _ (.ic n) _ _), some (.array len el) => (match szOf P el with
    | some sz => if 0 ≤ n ∧ n < len then spart P el cs (n.toNat * sz) else none
    | none => none)
  | .c (.cst (.string s)), .c (.int _ (.ic n) _ _), some .string => if 0 ≤ n then (match s[n.toNat]? with
      | some b => some (.c (.int .u8 (.ic b.toNat) b.toNat b.toNat))
      | none => none) else none
  | _, _, _ => none
theorem sindex_ok {t : TypeId} {x y s : SV} {u v : Value} (h : sindex P t x y = some s) (hx : RV ρ ls x u) (hy : RV ρ ls y v) : ∃ z, (Instr.index t u v).run P w = .ok z w ∧ RV ρ ls s z := by
  unfold sindex at h
  split at h
  · rename_i cs k n lo hi len el ht
    split at h
    · rename_i sz hsz
      split at h
      · rename_i hn
        obtain ⟨vs, rfl, hr⟩ := hx
        obtain ⟨rfl, _, _⟩ := hy
        obtain ⟨z, hz, hr'⟩ := spart_ok h hr w
        have e : evI ρ (.ic n) = n := rfl
        exact ⟨z, by simp [Instr.index, run_underlying ht, asIntOf, e, hn, run_sizeOf hsz, hz], hr'⟩
      · cases h
    · cases h
  · rename_i str k n lo hi ht
    split at h
    · rename_i hn
      split at h
      · rename_i b hb
        cases h
        have hx' : u = _ := hx
        subst hx'
        obtain ⟨rfl, _, _⟩ := hy
        have e : evI ρ (.ic n) = n := rfl
        exact ⟨.int .u8 b.toNat, by simp [Instr.index, run_underlying ht, asIntOf, e, hn, hb], rfl, Int.le_refl _, Int.le_refl _⟩
      · cases h
    · cases h
  · cases h

def sextract (v : SV) (i : Nat) : Option SV :=
  match v with
  | .tup l => (match l[i]? with | some (true, cs) => some (.agg cs) | some (false, [s]) => some (.c s) | _ => none)
  | _ => none
theorem sextract_ok {x s : SV} {u : Value} {i : Nat} (h : sextract x i = some s) (hx : RV ρ ls x u) : ∃ z, (Instr.extract u i).run P w = .ok z w ∧ RV ρ ls s z := by
  unfold sextract at h
  split at h
  · obtain ⟨vs, rfl, hr⟩ := hx
    split at h
    · rename_i cs hl
      cases h
      obtain ⟨z, hz, hr'⟩ := hr.get hl
      exact ⟨z, by simp [Instr.extract, hz], hr'⟩
    · rename_i s' hl
      cases h
      obtain ⟨z, hz, hr'⟩ := hr.get hl
      exact ⟨z, by simp [Instr.extract, hz], hr'⟩
    · cases h
  · cases h

/-! ### Function values -/
def ptrs (tm : Tms) (G : E) : List Operand → Option (List PV)
  | [] => some []
  | x :: xs => match opd tm G x, ptrs tm G xs with | some (.c (.ptr l o)), some r => some ((l, o) :: r) | _, _ => none
theorem ptrs_ok (hr : RTm ρ ls tm a) (hG : evB ρ G = true) : ∀ {xs : List Operand} {ps : List PV}, ptrs tm G xs = some ps → All2 (RP ls) ps (xs.map a.eval)
  | [], _, h => by cases h; trivial
  | x :: xs, ps, h => by
    simp only [ptrs] at h
    split at h
    · rename_i l o r hx hxs
      cases h
      exact ⟨opd_ok hx hr hG, ptrs_ok hr hG hxs⟩
    · cases h

/-! ### Aggregates built in place -/
def zeroCells (P : Program) (t : TypeId) : Option (List SC) :=
  match P.info? t with
  | some i => (match i.zero with | some z => svCells (svOf z) | none => none)
  | none => none
theorem zeroCells_ok {t : TypeId} {l : List SC} (h : zeroCells P t = some l) (ρ : Env) (ls : Ls) :
    ∃ z vs, (∀ w, (zeroValue t).run P w = .ok z w) ∧ z.cells = List.toArray vs ∧ All2 (RS ρ ls) l vs := by
  unfold zeroCells at h
  split at h
  · rename_i i hi
    split at h
    · rename_i z hz
      obtain ⟨vs, h1, h2, _⟩ := svCells_ok h (RV_svOf ρ ls z)
      exact ⟨z, vs, fun w => by simp [zeroValue, typeInfo, hi, hz], h1, h2⟩
    · cases h
  · cases h

def placesOf (P : Program) : List Field → Option (List (Nat × Nat))
  | [] => some []
  | f :: r => match szOf P f.type, placesOf P r with | some n, some ps => some ((f.offset, n) :: ps) | _, _ => none
theorem places_ok : ∀ {fs : List Field} {ps : List (Nat × Nat)}, placesOf P fs = some ps → (fs.mapM (fun f => (do pure (f.offset, ← sizeOf f.type) : Sem (Nat × Nat)))).run P w = .ok ps w
  | [], _, h => by cases h; rfl
  | f :: r, ps, h => by
    simp only [placesOf] at h
    split at h
    · rename_i n ps' hn hps
      cases h
      simp only [List.mapM_cons, Sem.run_bind, run_sizeOf hn, Result.andThen_ok, Sem.run_pure, places_ok hps]
    · cases h

def sfill (place : Nat → Option (Nat × Nat)) : List SC → List (Nat × SV) → Option (List SC)
  | cells, [] => some cells
  | cells, (i, v) :: rest => match place i, svCells v with
    | some (off, size), some l => if l.length == size && decide (off + l.length ≤ cells.length) then sfill place (setMany cells off l) rest else none
    | _, _ => none
theorem foldl_set : ∀ (us : List Value) (k : Nat) (vs : List Value) (off : Nat), (us.zipIdx k).foldl (fun (cs : Array Value) (x : Value × Nat) => cs.setIfInBounds (off + x.2) x.1) vs.toArray = (setMany vs (off + k) us).toArray
  | [], _, _, _ => rfl
  | u :: us, k, vs, off => by
    simp only [List.zipIdx_cons, List.foldl_cons, List.setIfInBounds_toArray, setMany]
    rw [foldl_set us (k + 1)]
    rfl
theorem sfill_ok {place : Nat → Option (Nat × Nat)} : ∀ {parts : List (Nat × SV)} {qs : List (Nat × Value)} {cs cs' : List SC} {vs : List Value}, sfill place cs parts = some cs' → All2 (RS ρ ls) cs vs → All2 (fun p q => p.1 = q.1 ∧ RV ρ ls p.2 q.2) parts qs →
    ∃ vs', Instr.fill place vs.toArray qs = some (List.toArray vs') ∧ All2 (RS ρ ls) cs' vs'
  | [], [], cs, cs', vs, h, hc, _ => by cases h; exact ⟨vs, rfl, hc⟩
  | (i, v) :: rest, (j, u) :: qs, cs, cs', vs, h, hc, hq => by
    obtain ⟨⟨rfl, hv⟩, hq'⟩ := hq
    simp only [sfill] at h
    split at h
    · rename_i off size l hp hl
      split at h
      · rename_i hif
        simp only [Bool.and_eq_true, beq_iff_eq, decide_eq_true_eq] at hif
        obtain ⟨us, e1, e2, _⟩ := svCells_ok hl hv
        have n1 := e2.len
        have n2 := hc.len
        obtain ⟨vs', h1, h2⟩ := sfill_ok h (All2.setMany e2 off hc) hq'
        refine ⟨vs', ?_, h2⟩
        have hf : (u.cells.zipIdx.foldl (fun (cs : Array Value) (x : Value × Nat) => cs.setIfInBounds (off + x.2) x.1) vs.toArray) = (setMany vs off us).toArray := by
          rw [e1, ← Array.foldl_toList, Array.toList_zipIdx]
          exact foldl_set us 0 vs off
        simp only [Instr.fill, hp]
        have g1 : u.cells.size = size := by rw [e1]; simp; omega
        have g2 : ¬ (u.cells.size ≠ size || off + u.cells.size > vs.toArray.size) = true := by
          rw [g1]; simp; omega
        rw [if_neg g2]
        have hf' := hf
        first
          | rw [hf']; exact h1
          | (simp only [hf']; exact h1)
      · cases h
    · cases h
  | [], _ :: _, _, _, _, _, _, h => h.elim
  | _ :: _, [], _, _, _, _, _, h => h.elim

def partsOf (tm : Tms) (G : E) : List (Nat × Operand) → Option (List (Nat × SV))
  | [] => some []
  | (i, x) :: r => match opd tm G x, partsOf tm G r with | some v, some ps => some ((i, v) :: ps) | _, _ => none
theorem partsOf_ok (hr : RTm ρ ls tm a) (hG : evB ρ G = true) : ∀ {xs : List (Nat × Operand)} {ps : List (Nat × SV)}, partsOf tm G xs = some ps → All2 (fun p q => p.1 = q.1 ∧ RV ρ ls p.2 q.2) ps (xs.map fun x => (x.1, a.eval x.2))
  | [], _, h => by cases h; trivial
  | (i, x) :: xs, ps, h => by
    simp only [partsOf] at h
    split at h
    · rename_i v ps' hx hxs
      cases h
      exact ⟨⟨rfl, opd_ok hx hr hG⟩, partsOf_ok hr hG hxs⟩
    · cases h

def sbuild (P : Program) (t : TypeId) (ps : List (Nat × SV)) : Option SV :=
  match zeroCells P t, P.underlying t with
  | some z, some (.struct fs) => (match placesOf P fs.toList with | some pl => (sfill (fun i => pl[i]?) z ps).map .agg | none => none)
  | some z, some (.array _ el) => (match szOf P el with | some sz => (sfill (fun i => some (i * sz, sz)) z ps).map .agg | none => none)
  | _, _ => none
theorem sbuild_ok {t : TypeId} {ps : List (Nat × SV)} {qs : List (Nat × Value)} {s : SV} (h : sbuild P t ps = some s) (hq : All2 (fun p q => p.1 = q.1 ∧ RV ρ ls p.2 q.2) ps qs) : ∃ z, (Instr.build t qs.toArray).run P w = .ok z w ∧ RV ρ ls s z := by
  unfold sbuild at h
  split at h
  · rename_i z fs hz ht
    obtain ⟨zv, vs, z1, z2, z3⟩ := zeroCells_ok hz ρ ls
    split at h
    · rename_i pl hpl
      rw [Option.map_eq_some_iff] at h
      obtain ⟨cs', hf, rfl⟩ := h
      obtain ⟨vs', f1, f2⟩ := sfill_ok hf z3 hq
      refine ⟨.agg vs'.toArray, ?_, vs', rfl, f2⟩
      have hm := places_ok (P := P) (w := w) hpl
      have hfun : (fun (i : Nat) => (pl.toArray)[i]?) = fun (i : Nat) => pl[i]? := by funext i; simp
      simp only [Instr.build, Sem.run_bind, z1, Result.andThen_ok, run_underlying ht, z2, Array.mapM_eq_mapM_toList, Sem.run_map, hm]
      simp only [hfun, f1]
      rfl
    · cases h
  · rename_i z n el hz ht
    obtain ⟨zv, vs, z1, z2, z3⟩ := zeroCells_ok hz ρ ls
    split at h
    · rename_i sz hsz
      rw [Option.map_eq_some_iff] at h
      obtain ⟨cs', hf, rfl⟩ := h
      obtain ⟨vs', f1, f2⟩ := sfill_ok hf z3 hq
      refine ⟨.agg vs'.toArray, ?_, vs', rfl, f2⟩
      simp only [Instr.build, Sem.run_bind, z1, Result.andThen_ok, run_underlying ht, z2, run_sizeOf hsz, f1]
      rfl
    · cases h
  · cases h
end
end Vc
end Go.Proofs.YtfpecoddgdcaaaaDoor
