/- Operations that leave the world as it is or only make blocks of their own: the whole table, with calls taken by contract. -/
import Derived.Test.YtfpecoddgdcaaaaDoorVcQ
import Derived.Laws.BytesString
namespace Go.Proofs.YtfpecoddgdcaaaaDoor
namespace Vc
open Go Go.RowKit

/-! ### The greatest and the least of several integers; the length of an array -/
def mm2 (mx : Bool) (k : IntKind) (a : E) (l1 h1 : Int) (b : E) (l2 h2 : Int) : SC :=
  if mx then (if h2 ≤ l1 then .int k a l1 h1 else if h1 ≤ l2 then .int k b l2 h2 else .int k (.mx a b) (max l1 l2) (max h1 h2))
  else (if h1 ≤ l2 then .int k a l1 h1 else if h2 ≤ l1 then .int k b l2 h2 else .int k (.mn a b) (min l1 l2) (min h1 h2))
def mmL (mx : Bool) : SC → List SV → Option SV
  | acc, [] => some (.c acc)
  | .int k a l1 h1, .c (.int k' b l2 h2) :: r => if k = k' then mmL mx (mm2 mx k a l1 h1 b l2 h2) r else none
  | _, _ => none
def isInt : SC → Bool
  | .int .. => true
  | _ => false

section
variable {P : Program} {ρ : Env} {B : Nat} {w0 w : World} {ls : Ls} {hp : SH} {tm : Tms} {a : Act} {G : E} {cf : Cfg}

theorem mm2_ok {mx : Bool} {k : IntKind} {x y : E} {l1 h1 l2 h2 : Int} (a1 : l1 ≤ evI ρ x) (a2 : evI ρ x ≤ h1) (b1 : l2 ≤ evI ρ y) (b2 : evI ρ y ≤ h2) :
    RS ρ ls (mm2 mx k x l1 h1 y l2 h2) (.int k (if mx then max (evI ρ x) (evI ρ y) else min (evI ρ x) (evI ρ y))) := by
  unfold mm2
  cases mx
  · simp only [Bool.false_eq_true, if_false]
    split
    · exact ⟨by congr 1; omega, a1, a2⟩
    · split
      · exact ⟨by congr 1; omega, b1, b2⟩
      · have e : evI ρ (.mn x y) = min (evI ρ x) (evI ρ y) := rfl
        exact ⟨by rw [e], by rw [e]; omega, by rw [e]; omega⟩
  · simp only [if_true]
    split
    · exact ⟨by congr 1; omega, a1, a2⟩
    · split
      · exact ⟨by congr 1; omega, b1, b2⟩
      · have e : evI ρ (.mx x y) = max (evI ρ x) (evI ρ y) := rfl
        exact ⟨by rw [e], by rw [e]; omega, by rw [e]; omega⟩
theorem mmL_ok {mx : Bool} : ∀ {r : List SV} {us : List Value} {acc : SC} {u : Value} {s : SV}, mmL mx acc r = some s → RS ρ ls acc u → All2 (RV ρ ls) r us →
    ∃ z, (us.foldlM (if mx then Builtin.max2 else Builtin.min2) u : Sem Value).run P w = .ok z w ∧ RV ρ ls s z
  | [], [], acc, u, s, h, ha, _ => by
    cases acc <;> cases h <;> exact ⟨u, rfl, ha⟩
  | x :: r, v :: us, acc, u, s, h, ha, hr => by
    cases acc with
    | int k e l1 h1 =>
      cases x with
      | c y =>
        cases y with
        | int k' b l2 h2 =>
          simp only [mmL] at h
          split at h
          · rename_i hk
            subst hk
            obtain ⟨rfl, a1, a2⟩ := ha
            obtain ⟨⟨rfl, b1, b2⟩, hr'⟩ := hr
            have hm := mm2_ok (ls := ls) (mx := mx) (k := k) a1 a2 b1 b2
            obtain ⟨z, hz, hz'⟩ := mmL_ok h hm hr'
            refine ⟨z, ?_, hz'⟩
            rw [List.foldlM_cons, Sem.run_bind]
            have : ((if mx then Builtin.max2 else Builtin.min2) (.int k (evI ρ e)) (.int k (evI ρ b)) : Sem Value).run P w = .ok (.int k (if mx then max (evI ρ e) (evI ρ b) else min (evI ρ e) (evI ρ b))) w := by
              cases mx
              · simp only [Bool.false_eq_true, if_false, Builtin.min2, Sem.run_pure]
                congr 2; split <;> omega
              · simp only [if_true, Builtin.max2, Sem.run_pure]
                congr 2; split <;> omega
            rw [this]
            exact hz
          · cases h
        | _ => simp [mmL] at h
      | _ => simp [mmL] at h
    | _ => simp [mmL] at h
  | [], _ :: _, _, _, _, _, _, h => h.elim
  | _ :: _, [], _, _, _, _, _, h => h.elim

def opds (tm : Tms) (G : E) : List Operand → Option (List SV)
  | [] => some []
  | x :: r => match opd tm G x, opds tm G r with | some v, some vs => some (v :: vs) | _, _ => none
theorem opds_ok (hr : RTm ρ ls tm a) (hG : evB ρ G = true) : ∀ {xs : List Operand} {vs : List SV}, opds tm G xs = some vs → All2 (RV ρ ls) vs (xs.map a.eval)
  | [], _, h => by cases h; trivial
  | x :: xs, vs, h => by
    simp only [opds] at h
    split at h
    · rename_i v vs' hx hxs
      cases h
      exact ⟨opd_ok hx hr hG, opds_ok hr hG hxs⟩
    · cases h

def lenT (P : Program) (t : TypeId) : Option Nat := match P.underlying t with | some (.array n _) => some n | _ => none
def isSlT (P : Program) (t : TypeId) : Bool := match P.underlying t with | some (.slice _) => true | _ => false
theorem isSlT_ok {t : TypeId} (h : isSlT P t = true) : ∃ e, P.underlying t = some (.slice e) := by
  unfold isSlT at h; split at h
  · rename_i e he; exact ⟨e, he⟩
  · cases h
def isStrT (P : Program) (t : TypeId) : Bool := match P.underlying t with | some .string => true | _ => false
theorem isStrT_ok {t : TypeId} (h : isStrT P t = true) : P.underlying t = some .string := by
  unfold isStrT at h; split at h
  · assumption
  · cases h
def slen (hp : SH) : SV → Option SC
  | .c (.ow l) => (match hp[l]? with
    | some ⟨_, _, .row _ _ n hi⟩ => some (.int .i64 n 0 hi)
    | some ⟨_, _, .grow sz cs⟩ => some (.int .i64 (.ic (cs.length / sz : Nat)) (cs.length / sz : Nat) (cs.length / sz : Nat))
    | _ => none)
  | .c (.sl _ _ _ n hi) => some (.int .i64 n 0 hi)
  | .c (.sc _ _ n _) => some (.int .i64 (.ic n) n n)
  | .c (.cst (.slice none 0 0)) => some (.int .i64 (.ic 0) 0 0)
  | .c (.ln n hi) => some (.int .i64 n 0 hi)
  | _ => none
theorem slen_ok {x : SV} {s : SC} {u : Value} (h : slen hp x = some s) (hh : HOk ρ B w0 ls hp w) (hx : RV ρ ls x u) : ∃ A n c, u = .slice A n c ∧ RS ρ ls s (.int .i64 n) := by
  unfold slen at h
  split at h
  · rename_i l
    obtain ⟨h1, A, n, c, rfl⟩ := hx
    split at h
    · rename_i b ty sh R m hi hl
      cases h
      obtain ⟨A', c', g1, g2, g3, g4⟩ := row_len rfl (hh.ent l _ hl)
      rw [h1] at g1; cases g1
      have e : (((evI ρ m).toNat : Nat) : Int) = evI ρ m := by omega
      exact ⟨_, _, _, rfl, by show Value.int _ _ = .int _ _; rw [e], g2, g3⟩
    · rename_i b ty sz cs hl
      cases h
      obtain ⟨_, h0, A', n', c', vs, e1, e2, e3, _⟩ := hh.ent l _ hl
      rw [h1] at e1; cases e1
      have hn : cs.length / sz = n := by rw [e3.len, e2, Nat.mul_div_cancel _ h0]
      rw [hn]
      exact ⟨_, _, _, rfl, rfl, Int.le_refl _, Int.le_refl _⟩
    · cases h
  · rename_i l sz lo n hi
    cases h
    obtain ⟨A, N, C, A', c, g1, rfl, g2, g3, g4, _⟩ := hx
    have e : (((evI ρ n).toNat : Nat) : Int) = evI ρ n := by omega
    exact ⟨_, _, _, rfl, by show Value.int _ _ = .int _ _; rw [e], g3, g4⟩
  · rename_i l o n c
    cases h
    obtain ⟨_, a, _, rfl⟩ := hx
    exact ⟨_, _, _, rfl, rfl, Int.le_refl _, Int.le_refl _⟩
  · cases h
    have hx' : u = _ := hx
    subst hx'
    exact ⟨none, 0, 0, rfl, rfl, Int.le_refl _, Int.le_refl _⟩
  · rename_i n hi
    cases h
    obtain ⟨A, c, rfl, g2, g3⟩ := hx
    have e : (((evI ρ n).toNat : Nat) : Int) = evI ρ n := by omega
    exact ⟨_, _, _, rfl, by show Value.int _ _ = .int _ _; rw [e], g2, g3⟩
  · cases h
def sbuiltin (P : Program) (hp : SH) (b : Builtin) (ts : List TypeId) (vs : List SV) : Option SV :=
  match b, ts, vs with
  | .len, [t], [x] => (match lenT P t with
    | some n => some (.c (.int .i64 (.ic n) n n))
    | none => if isSlT P t then (slen hp x).map .c else (match x with
      | .c (.cst (.string s)) => if isStrT P t then some (.c (.int .i64 (.ic s.size) s.size s.size)) else none
      | .c (.str e hi) => if isStrT P t then some (.c (.int .i64 e 0 hi)) else none
      | _ => none))
  | .max, _, .c x :: r => mmL true x r
  | .min, _, .c x :: r => mmL false x r
  | _, _, _ => none
theorem sbuiltin_ok {b : Builtin} {ts : List TypeId} {vs : List SV} {us : List Value} {s : SV} {ty : TypeId} {cs : Array Bool} (h : sbuiltin P hp b ts vs = some s) (hh : HOk ρ B w0 ls hp w) (hr : All2 (RV ρ ls) vs us) :
    ∃ z, (builtin b ts.toArray ty cs us.toArray).run P w = .ok (.value z) w ∧ RV ρ ls s z := by
  unfold sbuiltin at h
  split at h
  · rename_i t x
    cases us with
    | nil => exact hr.elim
    | cons u us => cases us with
      | cons _ _ => exact hr.2.elim
      | nil =>
        split at h
        · rename_i n hn
          cases h
          unfold lenT at hn
          split at hn
          · rename_i _ el ht
            cases hn
            refine ⟨.int .i64 n, ?_, rfl, Int.le_refl _, Int.le_refl _⟩
            simp [builtin, Builtin.len_, run_underlying ht, goInt]
          · cases hn
        · split at h
          · rename_i hsl
            obtain ⟨e, ht⟩ := isSlT_ok hsl
            rw [Option.map_eq_some_iff] at h
            obtain ⟨s', hs, rfl⟩ := h
            obtain ⟨A, n, c, rfl, hr'⟩ := slen_ok hs hh hr.1
            exact ⟨.int .i64 n, by simp [builtin, Builtin.len_, run_underlying ht, goInt], hr'⟩
          · split at h
            · rename_i str
              split at h
              · rename_i hst
                have ht := isStrT_ok hst
                cases h
                have hu : u = _ := hr.1
                subst hu
                exact ⟨.int .i64 str.size, by simp [builtin, Builtin.len_, run_underlying ht, goInt], rfl, Int.le_refl _, Int.le_refl _⟩
              · cases h
            · rename_i e hi
              split at h
              · rename_i hst
                have ht := isStrT_ok hst
                cases h
                obtain ⟨str, rfl, _, g1, g2⟩ := hr.1
                exact ⟨.int .i64 str.size, by simp [builtin, Builtin.len_, run_underlying ht, goInt], by rw [g1], by rw [g1]; omega, by rw [g1]; exact g2⟩
              · cases h
            · cases h
  · rename_i x r
    cases us with
    | nil => exact hr.elim
    | cons u us =>
      obtain ⟨z, hz, hz'⟩ := mmL_ok (P := P) (w := w) h hr.1 hr.2
      simp only [if_true] at hz
      exact ⟨z, by simp [builtin, Builtin.max_, hz], hz'⟩
  · rename_i x r
    cases us with
    | nil => exact hr.elim
    | cons u us =>
      obtain ⟨z, hz, hz'⟩ := mmL_ok (P := P) (w := w) h hr.1 hr.2
      simp only [Bool.false_eq_true, if_false] at hz
      exact ⟨z, by simp [builtin, Builtin.min_, hz], hz'⟩
  · cases h

/-! ### A part of a known string; bytes as a string -/
def optC (tm : Tms) (G : E) : Option Operand → Option (Option Int)
  | none => some none
  | some o => match opd tm G o with
    | some (.c (.int _ (.ic n) _ _)) => some (some n)
    | _ => none
theorem optC_ok (hr : RTm ρ ls tm a) (hG : evB ρ G = true) {x : Option Operand} {r : Option Int} (h : optC tm G x = some r) : (x.map a.eval = none ∧ r = none) ∨ ∃ k n, x.map a.eval = some (.int k n) ∧ r = some n := by
  cases x with
  | none => cases h; exact .inl ⟨rfl, rfl⟩
  | some o =>
    simp only [optC] at h
    split at h
    · rename_i k n lo hi ho
      cases h
      have := opd_ok ho hr hG
      obtain ⟨e, _, _⟩ := this
      exact .inr ⟨k, n, by simp [e]; rfl, rfl⟩
    · cases h
def sslice (P : Program) (t : TypeId) (x : SV) (lo hi : Option Int) : Option SV :=
  match x with
  | .c (.cst (.string s)) => if isStrT P t && decide (0 ≤ lo.getD 0) && decide (lo.getD 0 ≤ hi.getD s.size) && decide (hi.getD s.size ≤ s.size) then some (.c (.cst (.string (s.extract (lo.getD 0).toNat (hi.getD s.size).toNat)))) else none
  | _ => none
theorem sslice_ok {t : TypeId} {x s : SV} {u : Value} {lo hi : Option Int} {lv hv : Option Value} (h : sslice P t x lo hi = some s) (hx : RV ρ ls x u)
    (hl : (lv = none ∧ lo = none) ∨ ∃ k n, lv = some (.int k n) ∧ lo = some n) (hh : (hv = none ∧ hi = none) ∨ ∃ k n, hv = some (.int k n) ∧ hi = some n) : ∃ z, (Instr.sliceAt t u lv hv none).run P w = .ok z w ∧ RV ρ ls s z := by
  unfold sslice at h
  split at h
  · rename_i str
    split at h
    · rename_i hif
      simp only [Bool.and_eq_true, decide_eq_true_eq] at hif
      obtain ⟨⟨⟨ht, h1⟩, h2⟩, h3⟩ := hif
      cases h
      have hu : u = _ := hx
      subst hu
      have ht' := isStrT_ok ht
      refine ⟨.string (str.extract (lo.getD 0).toNat (hi.getD str.size).toNat), ?_, rfl⟩
      have hb : ∀ (k : IntKind) (n : Int) (y : Nat) (c : BoundsCode), 0 ≤ n → n ≤ y → (Instr.sliceBound (.int k n) y c).run P w = .ok n.toNat w := fun k n y c a1 a2 => by
        simp [Instr.sliceBound, asIntOf, a1, a2]
      rcases hl with ⟨rfl, rfl⟩ | ⟨k, n, rfl, rfl⟩ <;> rcases hh with ⟨rfl, rfl⟩ | ⟨k', n', rfl, rfl⟩ <;> simp only [Option.getD_none, Option.getD_some] at h1 h2 h3 ⊢
      · simp [Instr.sliceAt, Instr.slice, run_underlying ht', Instr.sliceBounds]
      · simp [Instr.sliceAt, Instr.slice, run_underlying ht', Instr.sliceBounds, hb k' n' str.size _ (by omega) (by omega)]
      · simp [Instr.sliceAt, Instr.slice, run_underlying ht', Instr.sliceBounds, hb k n str.size _ (by omega) (by omega)]
      · have e1 := hb k' n' str.size .sliceAlen (by omega) (by omega)
        have e2 := hb k n n'.toNat .sliceB (by omega) (by omega)
        simp [Instr.sliceAt, Instr.slice, run_underlying ht', Instr.sliceBounds, e1, e2]
    · cases h
  · cases h
def byteL : List SC → Option (List Int)
  | [] => some []
  | .int .u8 (.ic n) _ _ :: r => (match byteL r with | some l => some (n :: l) | none => none)
  | _ => none
theorem byteL_ok : ∀ {cs : List SC} {ns : List Int} {vs : List Value}, byteL cs = some ns → All2 (RS ρ ls) cs vs → vs = ns.map (Value.int .u8)
  | [], _, [], h, _ => by cases h; rfl
  | [], _, _ :: _, _, hr => hr.elim
  | c :: cs, ns, [], _, hr => hr.elim
  | c :: cs, ns, v :: vs, h, hr => by
    unfold byteL at h
    split at h
    · rename_i h1; cases h1
    · rename_i n lo hi r h1
      cases h1
      split at h
      · rename_i l hl
        cases h
        obtain ⟨⟨rfl, _, _⟩, hr'⟩ := hr
        rw [byteL_ok hl hr']; rfl
      · cases h
    · cases h
def isBytesT (P : Program) (t : TypeId) : Bool := match P.underlying t with
  | some (.slice e) => (match P.underlying e with | some (.int .u8) => true | _ => false)
  | _ => false
theorem isBytesT_ok {t : TypeId} (h : isBytesT P t = true) : ∃ e, P.underlying t = some (.slice e) ∧ P.underlying e = some (.int .u8) := by
  unfold isBytesT at h
  split at h
  · rename_i e he
    split at h
    · rename_i hu; exact ⟨e, he, hu⟩
    · cases h
  · cases h
def sconvB (P : Program) (hp : SH) (src dst : TypeId) (x : SV) : Option SV :=
  match x with
  | .c (.sc l off n _) => (match hp[l]? with
    | some ⟨_, _, .cells cs⟩ => if off + n ≤ cs.length ∧ isBytesT P src = true ∧ isStrT P dst = true then (match byteL ((cs.drop off).take n) with
      | some ns => some (.c (.cst (.string (ns.foldl (fun r n => r.push (UInt8.ofNat n.toNat)) ByteArray.empty))))
      | none => none) else none
    | _ => none)
  | _ => none
theorem sconvB_ok {src dst : TypeId} {x s : SV} {u : Value} (h : sconvB P hp src dst x = some s) (hh : HOk ρ B w0 ls hp w) (hx : RV ρ ls x u) : ∃ z, (convert src dst u).run P w = .ok z w ∧ RV ρ ls s z := by
  unfold sconvB at h
  split at h
  · rename_i l off n c
    split at h
    · rename_i b ty cs hl
      split at h
      · rename_i hif
        obtain ⟨h1, h2, h3⟩ := hif
        split at h
        · rename_i ns hns
          cases h
          obtain ⟨_, ad, ha, rfl⟩ := hx
          obtain ⟨a', vs, e1, e2, e3, _⟩ := hh.ent _ _ hl
          rw [ha] at e1; cases e1
          obtain ⟨e, he1, he2⟩ := isBytesT_ok h2
          have hr := (e2.drop off).take n
          have hv := byteL_ok hns hr
          have hlen := e2.len
          have hn : ns.length = n := by
            have := congrArg List.length hv
            simp at this
            omega
          refine ⟨_, ?_, rfl⟩
          rw [run_convert_bytes_string w src dst e _ _ _ he1 he2 (isStrT_ok h3)]
          refine run_bytesToString w _ _ _ ns ?_
          have hc := run_loadCells_list (P := P) w (ad.add off) (ns.map (Value.int .u8)) (fun j v hj => by
            rw [← hv] at hj
            rw [add_add]
            rw [List.getElem?_take] at hj
            split at hj
            · rw [List.getElem?_drop] at hj; exact e3 _ _ hj
            · cases hj)
          rw [List.length_map, hn] at hc
          exact hc
        · cases h
      · cases h
    · cases h
  · cases h

/-! ### A division whose divisor is owed to be above 0 -/
def sdivO (op : BinOp) (x y : SV) : Option (SV × List E) :=
  match x, y with
  | .c (.int k a l1 h1), .c (.int k' b _ h2) => if k = k' ∧ 0 ≤ l1 then (match op with
      | .quo => some (.c (fit k (.div a b) 0 h1), [.lt (.ic 0) b])
      | .rem => some (.c (.int k (.mod a b) 0 (min h1 (h2 - 1))), [.lt (.ic 0) b])
      | _ => none) else none
  | _, _ => none
theorem sdivO_ok {op : BinOp} {t : TypeId} {x y s : SV} {u v : Value} {X Y : Operand} {obs : List E} (h : sdivO op x y = some (s, obs)) (hob : ∀ e ∈ obs, evB ρ e = true) (hx : RV ρ ls x u) (hy : RV ρ ls y v) :
    ∃ z, ((do eqGuard op t X Y u v; binOp op t u v) : Sem Value).run P w = .ok z w ∧ RV ρ ls s z := by
  unfold sdivO at h
  split at h
  · rename_i k a l1 h1 k' b l2 h2
    split at h
    · rename_i hif
      obtain ⟨rfl, h0⟩ := hif
      obtain ⟨rfl, x2, x3⟩ := hx
      obtain ⟨rfl, y2, y3⟩ := hy
      rw [eqGuard_at_int]
      simp only [Sem.run_bind, Sem.run_pure, Result.andThen_ok]
      split at h
      · cases h
        have hb : 0 < evI ρ b := of_decide_eq_true (hob (.lt (.ic 0) b) (by simp))
        refine ⟨.int k (k.wrap ((evI ρ a).tdiv (evI ρ b))), ?_, ?_⟩
        · rw [binOp_quo]; simp [Op.intDiv, show evI ρ b ≠ 0 by omega]
        · have e : (evI ρ a).tdiv (evI ρ b) = evI ρ a / evI ρ b := Int.tdiv_eq_ediv_of_nonneg (by omega)
          rw [e]
          exact RS_fit rfl (Int.ediv_nonneg (by omega) (by omega)) (by have := Int.ediv_le_self (evI ρ b) (show 0 ≤ evI ρ a by omega); omega)
      · cases h
        have hb : 0 < evI ρ b := of_decide_eq_true (hob (.lt (.ic 0) b) (by simp))
        refine ⟨.int k ((evI ρ a).tmod (evI ρ b)), ?_, ?_⟩
        · rw [binOp_rem]; simp [Op.intDiv, show evI ρ b ≠ 0 by omega]
        · have e : (evI ρ a).tmod (evI ρ b) = evI ρ a % evI ρ b := Int.tmod_eq_emod_of_nonneg (by omega)
          have q0 : 0 ≤ evI ρ a % evI ρ b := Int.emod_nonneg _ (by omega)
          have q1 : evI ρ a % evI ρ b < evI ρ b := Int.emod_lt_of_pos _ (by omega)
          have q2 : evI ρ a % evI ρ b ≤ evI ρ a := emod_le_self' (by omega) (by omega)
          rw [e]
          have e2 : evI ρ (.mod a b) = evI ρ a % evI ρ b := rfl
          exact ⟨by rw [e2], by rw [e2]; omega, by rw [e2]; omega⟩
      · cases h
    · cases h
  · cases h

/-! ### Operations without effect -/
def nob (x : Option SV) : Option (SV × List E) := match x with | some v => some (v, []) | none => none
theorem nob_ok {x : Option SV} {v : SV} {obs : List E} (h : nob x = some (v, obs)) : x = some v := by
  unfold nob at h; split at h
  · cases h; rfl
  · cases h
def opPure (P : Program) (cf : Cfg) (tm : Tms) (hp : SH) (G : E) (o : Oper) : Option (SV × List E) :=
  match o.op with
  | .move x | .assign x => nob (opd tm G x)
  | .pick c x y => nob (pickV tm G c x y)
  | .nilCheck x => (match opd tm G x with
    | some (.c (.ptr l f)) => some (.c (.ptr l f), [])
    | some (.c (.gl g f)) => some (.c (.gl g f), [])
    | some (.c (.fn f p q)) => some (.c (.fn f p q), [])
    | _ => none)
  | .build t ps => (match partsOf tm G ps.toList with | some qs => nob (sbuild P t qs) | none => none)
  | .load t x => (match opd tm G x with | some (.c y) => nob (sload P cf.globs hp t y) | _ => none)
  | .binOp op t x y _ => (match opd tm G x, opd tm G y with | some u, some v => (match sbin P cf op t u v with | some r => some (r, []) | none => sdivO op u v) | _, _ => none)
  | .unOp op _ x => (match opd tm G x with | some u => nob (sunary op u) | none => none)
  | .convert src dst x => (match opd tm G x with | some u => (match sconv P src dst u with | some v => some (v, []) | none => nob (sconvB P hp src dst u)) | none => none)
  | .slice t x lo hi none => (match opd tm G x, optC tm G lo, optC tm G hi with | some u, some l, some h => nob (sslice P t u l h) | _, _, _ => none)
  | .makeFunc (.func f) first cap => (match ptrs tm G first.toList, ptrs tm G cap.toList with | some p, some q => some (.c (.fn f p q), []) | _, _ => none)
  | .fieldAddr t x f => (match opd tm G x with | some u => nob (sfieldAddr P t u f) | none => none)
  | .field t x f => (match opd tm G x with | some u => nob (sfield P t u f) | none => none)
  | .indexAddr t x i => (match opd tm G x, opd tm G i with | some u, some v => sindexAddr P hp t u v | _, _ => none)
  | .index t x i => (match opd tm G x, opd tm G i with | some u, some v => nob (sindex P t u v) | _, _ => none)
  | .extract x i => (match opd tm G x with | some u => nob (sextract u i) | none => none)
  | .call { callee := .builtin b, args, argTypes } => (match opds tm G args.toList with | some vs => nob (sbuiltin P hp b argTypes.toList vs) | none => none)
  | _ => none

theorem value_of {s : Sem Value} {z : Value} (h : s.run P w = .ok z w) : (do pure (Next.value (← s)) : Sem Next).run P w = .ok (.value z) w := by
  simp only [Sem.run_bind, h, Result.andThen_ok, Sem.run_pure]

theorem opPure_ok {o : Oper} {s : SV} {obs : List E} (h : opPure P cf tm hp G o = some (s, obs)) (hc : EqOk P cf) (hg : cf.globs = ρ.g) (hob : ∀ e ∈ obs, evB ρ e = true) (hr : RTm ρ ls tm a) (hG : evB ρ G = true) (hh : HOk ρ B w0 ls hp w) :
    ∃ z, (execOp a.eval o).run P w = .ok (.value z) w ∧ RV ρ ls s z := by
  obtain ⟨dst, op, ty, pos, after, guard⟩ := o
  cases op <;> simp only [opPure] at h <;> try (cases h; done)
  case move x => exact ⟨_, rfl, opd_ok (nob_ok h) hr hG⟩
  case assign x => exact ⟨_, rfl, opd_ok (nob_ok h) hr hG⟩
  case pick c x y =>
    obtain ⟨b, h1, h2⟩ := pickV_ok (nob_ok h) hr hG
    refine ⟨_, ?_, h2⟩
    simp [execOp, h1, asBool]
  case nilCheck x =>
    split at h
    · rename_i l f hx
      cases h
      obtain ⟨b, hb, he⟩ := opd_ok hx hr hG
      exact ⟨.pointer (some (b.add f)), by simp [execOp, he], b, hb, rfl⟩
    · rename_i l f hx
      cases h
      have he : a.eval x = _ := opd_ok hx hr hG
      exact ⟨.pointer (some ⟨l, f, none⟩), by simp [execOp, he], rfl⟩
    · rename_i f p q hx
      cases h
      obtain ⟨fs, cs, he, h1, h2⟩ := opd_ok hx hr hG
      exact ⟨.func (.func f) fs.toArray cs.toArray, by simp [execOp, he], fs, cs, rfl, h1, h2⟩
    · cases h
  case build t ps =>
    split at h
    · rename_i qs hq
      obtain ⟨z, hz, hz'⟩ := sbuild_ok (P := P) (w := w) (nob_ok h) (partsOf_ok hr hG hq)
      refine ⟨z, ?_, hz'⟩
      have e : (ps.map fun x => (x.1, a.eval x.2)) = (ps.toList.map fun x => (x.1, a.eval x.2)).toArray := by
        rw [← Array.toList_map]
      simp only [execOp]
      rw [show (ps.map fun (x : Nat × Operand) => (x.1, a.eval x.2)) = (ps.toList.map fun x => (x.1, a.eval x.2)).toArray from e]
      exact value_of hz
    · cases h
  case load t x =>
    split at h
    · rename_i y hx
      have h' := nob_ok h
      rw [hg] at h'
      obtain ⟨ad, u, he, hz, hz'⟩ := sload_ok h' hh (opd_ok hx hr hG)
      refine ⟨u, value_of ?_, hz'⟩
      rw [he]
      simp only [Instr.loadAt, Instr.sureAddr, Sem.run_bind, Sem.run_pure, Result.andThen_ok]
      exact hz
    · cases h
  case binOp op t x y yt =>
    split at h
    · rename_i u v hx hy
      split at h
      · rename_i r hr'
        cases h
        obtain ⟨z, hz, hz'⟩ := sbin_ok (w := w) (X := x) (Y := y) hr' hc (opd_ok hx hr hG) (opd_ok hy hr hG)
        exact ⟨z, value_of hz, hz'⟩
      · obtain ⟨z, hz, hz'⟩ := sdivO_ok (P := P) (w := w) (t := t) (X := x) (Y := y) h hob (opd_ok hx hr hG) (opd_ok hy hr hG)
        exact ⟨z, value_of hz, hz'⟩
    · cases h
  case unOp op t x =>
    split at h
    · rename_i u hx
      obtain ⟨z, hz, hz'⟩ := sunary_ok (P := P) (w := w) (nob_ok h) (opd_ok hx hr hG)
      exact ⟨z, value_of hz, hz'⟩
    · cases h
  case convert src dst x =>
    split at h
    · rename_i u hx
      split at h
      · rename_i v hv
        cases h
        obtain ⟨z, hz, hz'⟩ := sconv_ok (w := w) hv (opd_ok hx hr hG)
        exact ⟨z, value_of hz, hz'⟩
      · obtain ⟨z, hz, hz'⟩ := sconvB_ok (w := w) (nob_ok h) hh (opd_ok hx hr hG)
        exact ⟨z, value_of hz, hz'⟩
    · cases h
  case slice t x lo hi mx =>
    cases mx with
    | some _ => cases h
    | none =>
      simp only at h
      split at h
      · rename_i u l hi' hx hl hh'
        obtain ⟨z, hz, hz'⟩ := sslice_ok (P := P) (w := w) (nob_ok h) (opd_ok hx hr hG) (optC_ok hr hG hl) (optC_ok hr hG hh')
        exact ⟨z, value_of hz, hz'⟩
      · cases h
  case makeFunc fn first cap =>
    cases fn <;> simp only at h <;> try (cases h; done)
    rename_i f
    split at h
    · rename_i p q hp' hq'
      cases h
      have h1 := ptrs_ok hr hG hp'
      have h2 := ptrs_ok hr hG hq'
      refine ⟨.func (.func f) (first.toList.map a.eval).toArray (cap.toList.map a.eval).toArray, ?_, _, _, rfl, h1, h2⟩
      have e : ∀ xs : Array Operand, xs.map a.eval = (xs.toList.map a.eval).toArray := fun xs => by rw [← Array.toList_map]
      simp only [execOp, e]
      rfl
    · cases h
  case fieldAddr t x f =>
    split at h
    · rename_i u hx
      obtain ⟨z, hz, hz'⟩ := sfieldAddr_ok (w := w) (nob_ok h) (opd_ok hx hr hG)
      exact ⟨z, value_of hz, hz'⟩
    · cases h
  case field t x f =>
    split at h
    · rename_i u hx
      obtain ⟨z, hz, hz'⟩ := sfield_ok (w := w) (nob_ok h) (opd_ok hx hr hG)
      exact ⟨z, value_of hz, hz'⟩
    · cases h
  case indexAddr t x i =>
    split at h
    · rename_i u v hx hy
      obtain ⟨z, hz, hz'⟩ := sindexAddr_ok (w := w) h hh hob (opd_ok hx hr hG) (opd_ok hy hr hG)
      exact ⟨z, value_of hz, hz'⟩
    · cases h
  case index t x i =>
    split at h
    · rename_i u v hx hy
      obtain ⟨z, hz, hz'⟩ := sindex_ok (w := w) (nob_ok h) (opd_ok hx hr hG) (opd_ok hy hr hG)
      exact ⟨z, value_of hz, hz'⟩
    · cases h
  case extract x i =>
    split at h
    · rename_i u hx
      obtain ⟨z, hz, hz'⟩ := sextract_ok (P := P) (w := w) (nob_ok h) (opd_ok hx hr hG)
      exact ⟨z, value_of hz, hz'⟩
    · cases h
  case call c =>
    obtain ⟨callee, args, ats⟩ := c
    cases callee <;> simp only at h <;> try (cases h; done)
    rename_i b
    split at h
    · rename_i vs hvs
      obtain ⟨z, hz, hz'⟩ := sbuiltin_ok (P := P) (w := w) (ty := ty) (cs := args.map fun | .const _ => true | _ => false) (nob_ok h) hh (opds_ok hr hG hvs)
      refine ⟨z, ?_, hz'⟩
      have e : args.map a.eval = (args.toList.map a.eval).toArray := by rw [← Array.toList_map]
      simp only [execOp, resolve, Sem.run_bind, Sem.run_pure, Result.andThen_ok, invoke, e]
      have e2 : ats.toList.toArray = ats := by simp
      rw [e2] at hz
      exact hz
    · cases h

/-! ### Calls by contract -/
/-- An argument as an integer (a truth value) and nothing besides. -/
def canI : E → E
  | .ic n => .ic n
  | .add a b => .add a b
  | .sub a b => .sub a b
  | e => .add e (.ic 0)
def canB : E → E
  | .bc b => .bc b
  | .not a => .not a
  | e => .iff e (.bc true)
theorem ev_canI (e : E) : (ev ρ (canI e)).x = xI (evI ρ e) := by
  unfold canI; split <;> simp [ev, dI, xI, evI]
theorem ev_canB (e : E) : (ev ρ (canB e)).x = xB (evB ρ e) := by
  unfold canB; split <;> simp [ev, dB, xB, evB]
def flatC : List Ck → List SC → Option (List E)
  | [], [] => some []
  | .int k lo hi :: ks, .int k' e l h :: cs => if k = k' ∧ lo ≤ l ∧ h ≤ hi then (match flatC ks cs with | some r => some (canI e :: r) | none => none) else none
  | .bool :: ks, .bool e :: cs => (match flatC ks cs with | some r => some (canB e :: r) | none => none)
  | _, _ => none
def flat : List Sh → List SV → Option (List E)
  | [], [] => some []
  | .one k :: sh, .c s :: vs => (match flatC [k] [s], flat sh vs with | some e, some r => some (e ++ r) | _, _ => none)
  | .agg ks :: sh, .agg cs :: vs => (match flatC ks cs, flat sh vs with | some e, some r => some (e ++ r) | _, _ => none)
  | _, _ => none
def argE : List E → E
  | [] => .nil
  | e :: r => .cons e (argE r)
abbrev Ds := List X
def dsOf (ρ : Env) (es : List E) : Ds := es.map fun e => (ev ρ e).x
theorem ev_argE (es : List E) : (ev ρ (argE es)).l = dsOf ρ es := by
  induction es with
  | nil => rfl
  | cons e r ih => simp only [argE, ev, dsOf, List.map_cons]; rw [ih]; rfl

/-- The values that the parts stand for. -/
def kdV : List Ck → Ds → List Value
  | [], _ => []
  | .int k _ _ :: ks, d :: ds => .int k d.i :: kdV ks ds
  | .bool :: ks, d :: ds => .bool d.b :: kdV ks ds
  | _, _ => []
def kdR : List Ck → Ds → Prop
  | [], _ => True
  | .int _ lo hi :: ks, d :: ds => (d = xI d.i ∧ lo ≤ d.i ∧ d.i ≤ hi) ∧ kdR ks ds
  | .bool :: ks, d :: ds => d = xB d.b ∧ kdR ks ds
  | _, _ => False
def argV : List Sh → Ds → List Value
  | [], _ => []
  | .one k :: sh, ds => kdV [k] ds ++ argV sh (ds.drop 1)
  | .agg ks :: sh, ds => .agg (kdV ks ds).toArray :: argV sh (ds.drop ks.length)
def argR : List Sh → Ds → Prop
  | [], ds => ds = []
  | .one k :: sh, ds => kdR [k] ds ∧ argR sh (ds.drop 1)
  | .agg ks :: sh, ds => kdR ks ds ∧ argR sh (ds.drop ks.length)
/-- A part of the result. -/
def ckOk (x : X) : Ck → Value → Prop
  | .int k lo hi, v => v = .int k x.i ∧ lo ≤ x.i ∧ x.i ≤ hi
  | .bool, v => v = .bool x.b
  | .ln hi, v => ∃ A c, v = .slice A x.i.toNat c ∧ 0 ≤ x.i ∧ x.i ≤ hi
  | .cst u, v => v = u
  | .str hi, v => ∃ s : ByteArray, v = .string s ∧ x.v = .string s ∧ x.i = s.size ∧ (s.size : Int) ≤ hi
def ckL (f : Nat → X) : Nat → List Ck → List Value → Prop
  | _, [], [] => True
  | j, r :: rs, v :: vs => ckOk (f j) r v ∧ ckL f (j + 1) rs vs
  | _, _, _ => False
def ckT (f : Nat → X) : Nat → List (Bool × List Ck) → List Value → Prop
  | _, [], [] => True
  | j, (true, rs) :: l, v :: vs => (∃ us, v = .agg us.toArray ∧ ckL f j rs us) ∧ ckT f (j + rs.length) l vs
  | j, (false, [r]) :: l, v :: vs => ckOk (f j) r v ∧ ckT f (j + 1) l vs
  | _, _, _ => False
def resOk (f : Nat → X) (j : Nat) : Rs → Value → Prop
  | .one r, v => ckOk (f j) r v
  | .agg rs, v => ∃ us, v = .agg us.toArray ∧ ckL f j rs us
  | .tup l, v => ∃ us, v = .tuple us.toArray ∧ ckT f j l us

/-- The contract holds: whatever the scalars (they meet 'pre'), the call gives such a value, and what was there before it is as it was. -/
def CtrOk (P : Program) (ρ : Env) (c : Ctr) : Prop :=
  ∀ (ds : Ds) (w : World), GlobOk ρ.g w.heap.size w → argR c.args ds → (match c.pre with | none => True | some k => ρ.p k ds) →
    Calls P c.f (argV c.args ds).toArray w fun e w' => ∃ v, e = .returned v ∧ resOk (fun j => ρ.f j ds) c.fs c.res v ∧ Below w.heap.size w w'

def ckS (A : E) (j : Nat) : Ck → SC
  | .int k lo hi => .int k (.app j A) lo hi
  | .bool => .bool (.app j A)
  | .ln hi => .ln (.app j A) hi
  | .cst v => scOf v
  | .str hi => .str (.app j A) hi
def ckSL (A : E) : Nat → List Ck → List SC
  | _, [] => []
  | j, r :: rs => ckS A j r :: ckSL A (j + 1) rs
def ckST (A : E) : Nat → List (Bool × List Ck) → List (Bool × List SC)
  | _, [] => []
  | j, (b, rs) :: l => (b, ckSL A j rs) :: ckST A (j + rs.length) l
def resS (A : E) (j : Nat) : Rs → SV
  | .one r => .c (ckS A j r)
  | .agg rs => .agg (ckSL A j rs)
  | .tup l => .tup (ckST A j l)

theorem flatC_ok : ∀ {ks : List Ck} {cs : List SC} {es : List E} {us : List Value} {ds : Ds}, flatC ks cs = some es → All2 (RS ρ ls) cs us → us = kdV ks (dsOf ρ es ++ ds) ∧ es.length = ks.length ∧ kdR ks (dsOf ρ es ++ ds) := by
  intro ks
  induction ks with
  | nil =>
    intro cs es us ds h hr
    cases cs with
    | nil => cases h; cases us with
      | nil => exact ⟨rfl, rfl, trivial⟩
      | cons _ _ => exact hr.elim
    | cons _ _ => cases h
  | cons k ks ih =>
    intro cs es us ds h hr
    cases cs with
    | nil => cases k <;> cases h
    | cons c cs => cases us with
      | nil => exact hr.elim
      | cons u us =>
        cases k with
        | int k lo hi =>
          cases c <;> simp only [flatC] at h <;> try (cases h; done)
          split at h
          · rename_i hk
            obtain ⟨rfl, hlo, hhi⟩ := hk
            split at h
            · rename_i r hrr
              cases h
              obtain ⟨⟨rfl, r1, r2⟩, hr'⟩ := hr
              obtain ⟨i1, i2, i3⟩ := ih (ds := ds) hrr hr'
              refine ⟨by rw [i1]; simp only [dsOf, List.map_cons, List.cons_append, kdV]; rw [ev_canI]; rfl, by simp [i2], ?_⟩
              simp only [dsOf, List.map_cons, List.cons_append, kdR]
              rw [ev_canI]
              refine ⟨⟨rfl, ?_, ?_⟩, i3⟩
              · show lo ≤ evI ρ _; omega
              · show evI ρ _ ≤ hi; omega
            · cases h
          · cases h
        | bool =>
          cases c <;> simp only [flatC] at h <;> try (cases h; done)
          rename_i e
          split at h
          · rename_i r hrr
            cases h
            obtain ⟨hu, hr'⟩ := hr
            have hu' : u = .bool (evB ρ e) := hu
            subst hu'
            obtain ⟨i1, i2, i3⟩ := ih (ds := ds) hrr hr'
            refine ⟨by rw [i1]; simp only [dsOf, List.map_cons, List.cons_append, kdV]; rw [ev_canB]; rfl, by simp [i2], ?_⟩
            simp only [dsOf, List.map_cons, List.cons_append, kdR]
            rw [ev_canB]
            exact ⟨rfl, i3⟩
          · cases h
        | ln hi => cases c <;> cases h
        | cst v => cases c <;> cases h
        | str hi => cases c <;> cases h

theorem flat_ok : ∀ {sh : List Sh} {vs : List SV} {es : List E} {us : List Value}, flat sh vs = some es → All2 (RV ρ ls) vs us → us = argV sh (dsOf ρ es) ∧ argR sh (dsOf ρ es) := by
  intro sh
  induction sh with
  | nil =>
    intro vs es us h hr
    cases vs with
    | nil => cases us with
      | nil => cases h; exact ⟨rfl, rfl⟩
      | cons _ _ => exact hr.elim
    | cons _ _ => cases h
  | cons s sh ih =>
    intro vs es us h hr
    cases vs with
    | nil => cases s <;> cases h
    | cons v vs => cases us with
      | nil => exact hr.elim
      | cons u us =>
        cases s with
        | one k =>
          cases v <;> simp only [flat] at h <;> try (cases h; done)
          rename_i sc
          split at h
          · rename_i e r he hrr
            cases h
            obtain ⟨hu, hr'⟩ := hr
            obtain ⟨i1, i2, i4⟩ := flatC_ok (us := [u]) (ds := dsOf ρ r) he ⟨hu, trivial⟩
            obtain ⟨i3, i5⟩ := ih hrr hr'
            simp only [argV, argR]
            have e1 : dsOf ρ (e ++ r) = dsOf ρ e ++ dsOf ρ r := by simp [dsOf]
            have e2 : (dsOf ρ e ++ dsOf ρ r).drop 1 = dsOf ρ r := by
              have : (dsOf ρ e).length = 1 := by simp [dsOf, i2]
              rw [List.drop_append_of_le_length (by omega), List.drop_of_length_le (by omega)]; rfl
            rw [e1, e2]
            refine ⟨?_, i4, i5⟩
            rw [← i1, ← i3]
            rfl
          · cases h
        | agg ks =>
          cases v <;> simp only [flat] at h <;> try (cases h; done)
          rename_i cs
          split at h
          · rename_i e r he hrr
            cases h
            obtain ⟨⟨vs', rfl, hu⟩, hr'⟩ := hr
            obtain ⟨i1, i2, i4⟩ := flatC_ok (us := vs') (ds := dsOf ρ r) he hu
            obtain ⟨i3, i5⟩ := ih hrr hr'
            simp only [argV, argR]
            have e1 : dsOf ρ (e ++ r) = dsOf ρ e ++ dsOf ρ r := by simp [dsOf]
            have e2 : (dsOf ρ e ++ dsOf ρ r).drop ks.length = dsOf ρ r := by
              have : (dsOf ρ e).length = ks.length := by simp [dsOf, i2]
              rw [List.drop_append_of_le_length (by omega), List.drop_of_length_le (by omega)]; rfl
            rw [e1, e2]
            refine ⟨?_, i4, i5⟩
            rw [← i1, ← i3]
          · cases h

theorem ckS_ok {A : E} {ds : Ds} (hA : (ev ρ A).l = ds) {j : Nat} {r : Ck} {v : Value} (h : ckOk (ρ.f j ds) r v) : RS ρ ls (ckS A j r) v := by
  have e : (ev ρ (.app j A)).x = ρ.f j ds := by show ρ.f j (ev ρ A).l = _; rw [hA]
  cases r with
  | int k lo hi => simp only [ckS, RS, evI]; rw [e]; exact h
  | bool => simp only [ckS, RS, evB]; rw [e]; exact h
  | ln hi => simp only [ckS, RS, evI]; rw [e]; exact h
  | cst u => have h' : v = u := h; subst h'; exact RS_scOf ρ ls v
  | str hi => simp only [ckS, RS, evI]; rw [e]; exact h
theorem ckSL_ok {A : E} {ds : Ds} (hA : (ev ρ A).l = ds) : ∀ {rs : List Ck} {j : Nat} {vs : List Value}, ckL (fun j => ρ.f j ds) j rs vs → All2 (RS ρ ls) (ckSL A j rs) vs
  | [], _, [], _ => trivial
  | _ :: _, _, _ :: _, h => ⟨ckS_ok hA h.1, ckSL_ok hA h.2⟩
  | [], _, _ :: _, h => h.elim
  | _ :: _, _, [], h => h.elim
theorem ckST_ok {A : E} {ds : Ds} (hA : (ev ρ A).l = ds) : ∀ {l : List (Bool × List Ck)} {j : Nat} {vs : List Value}, ckT (fun j => ρ.f j ds) j l vs → All2 (RE ρ ls) (ckST A j l) vs
  | [], _, [], _ => trivial
  | (true, rs) :: l, j, v :: vs, h => by
    obtain ⟨⟨us, rfl, h1⟩, h2⟩ := h
    exact ⟨⟨us, rfl, ckSL_ok hA h1⟩, ckST_ok hA h2⟩
  | (false, [r]) :: l, j, v :: vs, h => ⟨ckS_ok hA h.1, ckST_ok hA h.2⟩
  | [], _, _ :: _, h => h.elim
  | (false, []) :: _, _, _ :: _, h => h.elim
  | (false, _ :: _ :: _) :: _, _, _ :: _, h => h.elim
  | (_, _) :: _, _, [], h => by simp [ckT] at h
theorem resS_ok {A : E} {ds : Ds} (hA : (ev ρ A).l = ds) {j : Nat} {r : Rs} {v : Value} (h : resOk (fun j => ρ.f j ds) j r v) : RV ρ ls (resS A j r) v := by
  cases r with
  | one r => exact ckS_ok hA h
  | agg rs => obtain ⟨us, rfl, h1⟩ := h; exact ⟨us, rfl, ckSL_ok hA h1⟩
  | tup l => obtain ⟨us, rfl, h1⟩ := h; exact ⟨us, rfl, ckST_ok hA h1⟩

/-- A contract at known arguments: the result reckoned. -/
def constX : E → Option X
  | .ic n => some (xI n)
  | .bc b => some (xB b)
  | _ => none
def constL : List E → Option Ds
  | [] => some []
  | e :: r => match constX e, constL r with | some x, some xs => some (x :: xs) | _, _ => none
theorem constL_ok : ∀ {es : List E} {ds : Ds}, constL es = some ds → dsOf ρ es = ds
  | [], _, h => by cases h; rfl
  | e :: r, ds, h => by
    simp only [constL] at h
    split at h
    · rename_i x xs hx hxs
      cases h
      have h1 := constL_ok hxs
      have h2 : (ev ρ e).x = x := by
        unfold constX at hx
        split at hx
        · cases hx; rfl
        · cases hx; rfl
        · cases hx
      simp only [dsOf, List.map_cons] at h1 ⊢
      rw [h1, h2]
    · cases h
def ckSF (x : X) : Ck → SC
  | .int k _ _ => .int k (.ic x.i) x.i x.i
  | .bool => .bool (.bc x.b)
  | .ln hi => .ln (.ic x.i) hi
  | .cst v => scOf v
  | .str _ => .cst x.v
def ckSFL (f : Nat → X) : Nat → List Ck → List SC
  | _, [] => []
  | j, r :: rs => ckSF (f j) r :: ckSFL f (j + 1) rs
def ckSFT (f : Nat → X) : Nat → List (Bool × List Ck) → List (Bool × List SC)
  | _, [] => []
  | j, (b, rs) :: l => (b, ckSFL f j rs) :: ckSFT f (j + rs.length) l
def resSF (f : Nat → X) (j : Nat) : Rs → SV
  | .one r => .c (ckSF (f j) r)
  | .agg rs => .agg (ckSFL f j rs)
  | .tup l => .tup (ckSFT f j l)
theorem ckSF_ok {x : X} {r : Ck} {v : Value} (h : ckOk x r v) : RS ρ ls (ckSF x r) v := by
  cases r with
  | int k lo hi => exact ⟨h.1, Int.le_refl _, Int.le_refl _⟩
  | bool => exact h
  | ln hi => exact h
  | cst u => have h' : v = u := h; subst h'; exact RS_scOf ρ ls v
  | str hi => obtain ⟨s, rfl, h2, _⟩ := h; exact h2.symm
theorem ckSFL_ok {f : Nat → X} : ∀ {rs : List Ck} {j : Nat} {vs : List Value}, ckL f j rs vs → All2 (RS ρ ls) (ckSFL f j rs) vs
  | [], _, [], _ => trivial
  | _ :: _, _, _ :: _, h => ⟨ckSF_ok h.1, ckSFL_ok h.2⟩
  | [], _, _ :: _, h => h.elim
  | _ :: _, _, [], h => h.elim
theorem ckSFT_ok {f : Nat → X} : ∀ {l : List (Bool × List Ck)} {j : Nat} {vs : List Value}, ckT f j l vs → All2 (RE ρ ls) (ckSFT f j l) vs
  | [], _, [], _ => trivial
  | (true, rs) :: l, j, v :: vs, h => by
    obtain ⟨⟨us, rfl, h1⟩, h2⟩ := h
    exact ⟨⟨us, rfl, ckSFL_ok h1⟩, ckSFT_ok h2⟩
  | (false, [r]) :: l, j, v :: vs, h => ⟨ckSF_ok h.1, ckSFT_ok h.2⟩
  | [], _, _ :: _, h => h.elim
  | (false, []) :: _, _, _ :: _, h => h.elim
  | (false, _ :: _ :: _) :: _, _, _ :: _, h => h.elim
  | (_, _) :: _, _, [], h => by simp [ckT] at h
theorem resSF_ok {f : Nat → X} {j : Nat} {r : Rs} {v : Value} (h : resOk f j r v) : RV ρ ls (resSF f j r) v := by
  cases r with
  | one r => exact ckSF_ok h
  | agg rs => obtain ⟨us, rfl, h1⟩ := h; exact ⟨us, rfl, ckSFL_ok h1⟩
  | tup l => obtain ⟨us, rfl, h1⟩ := h; exact ⟨us, rfl, ckSFT_ok h1⟩
def resV (cf : Cfg) (es : List E) (c : Ctr) : SV :=
  match cf.F, constL es with
  | some F, some ds => resSF (fun j => F j ds) c.fs c.res
  | _, _ => resS (argE es) c.fs c.res
theorem resV_ok {es : List E} {c : Ctr} {v : Value} (hF : ∀ F, cf.F = some F → F = ρ.f) (h : resOk (fun j => ρ.f j (dsOf ρ es)) c.fs c.res v) : RV ρ ls (resV cf es c) v := by
  unfold resV
  split
  · rename_i F ds e1 e2
    have e := hF F e1
    subst e
    rw [constL_ok e2] at h
    exact resSF_ok h
  · exact resS_ok (ev_argE es) h

def findCtr : List Ctr → FuncId → List SV → Option (Ctr × List E)
  | [], _, _ => none
  | c :: r, f, vs => if c.f == f then (match flat c.args vs with | some es => some (c, es) | none => findCtr r f vs) else findCtr r f vs
theorem findCtr_ok : ∀ {l : List Ctr} {f : FuncId} {vs : List SV} {c : Ctr} {es : List E}, findCtr l f vs = some (c, es) → c ∈ l ∧ c.f = f ∧ flat c.args vs = some es
  | [], _, _, _, _, h => by cases h
  | x :: r, f, vs, c, es, h => by
    simp only [findCtr] at h
    split at h
    · rename_i he
      split at h
      · rename_i es' hes
        cases h
        exact ⟨by simp, by simpa using he, hes⟩
      · obtain ⟨h1, h2⟩ := findCtr_ok h
        exact ⟨by simp [h1], h2⟩
    · obtain ⟨h1, h2⟩ := findCtr_ok h
      exact ⟨by simp [h1], h2⟩

/-- What is owed for an operation: tests, and what a contract asks. -/
structure Ow where
  obs : List E
  pre : Option (Nat × E)
  deriving Inhabited
def Ow.Ok (ρ : Env) (o : Ow) : Prop := (∀ e ∈ o.obs, evB ρ e = true) ∧ (match o.pre with | none => True | some (k, A) => ρ.p k (ev ρ A).l)

/-- The value of an operation that is pure or a call by contract, and what is owed. -/
def opQuiet (P : Program) (cf : Cfg) (tm : Tms) (hp : SH) (G : E) (o : Oper) : Option (SV × Ow) :=
  match opPure P cf tm hp G o with
  | some (v, obs) => some (v, ⟨obs, none⟩)
  | none => match o.op with
    | .call { callee := .value f, args, .. } => (match opd tm G f with
      | some (.c (.fn f [] [])) => (match opds tm G args.toList with
        | some vs => (match findCtr cf.ctrs f vs with
          | some (c, es) => some (resV cf es c, ⟨[], c.pre.map fun k => (k, argE es)⟩)
          | none => none)
        | none => none)
      | _ => none)
    | _ => none

def lookFn : List (FuncId × Func) → FuncId → Option Func
  | [], _ => none
  | (g, fn) :: r, f => if g == f then some fn else lookFn r f
structure CfgOk (P : Program) (ρ : Env) (cf : Cfg) : Prop where
  eq : EqOk P cf
  globs : cf.globs = ρ.g
  F : ∀ F, cf.F = some F → F = ρ.f
  mixed : P.follows .mixedOrders = true
  fns : ∀ f fn, lookFn cf.fns f = some fn → P.funcs[f]? = some fn ∧ (fn.name == "runtime.NumGoroutine") = false
  ctr : ∀ c ∈ cf.ctrs ++ cf.qctrs, CtrOk P ρ c
  fn : ∀ c ∈ cf.ctrs ++ cf.qctrs, ∃ fn, P.funcs[c.f]? = some fn ∧ fn.body.isSome = true ∧ (fn.name == "runtime.NumGoroutine") = false

def Cfg.q (cf : Cfg) : Cfg := { cf with ctrs := cf.ctrs ++ cf.qctrs, qctrs := [] }
theorem CfgOk.q {ρ : Env} {cf : Cfg} (h : CfgOk P ρ cf) : CfgOk P ρ cf.q where
  eq := h.eq
  globs := h.globs
  F := h.F
  mixed := h.mixed
  fns := h.fns
  ctr := fun c hc => h.ctr c (by simpa [Cfg.q] using hc)
  fn := fun c hc => h.fn c (by simpa [Cfg.q] using hc)
theorem CfgOk.withX {ρ : Env} {cf : Cfg} (h : CfgOk P ρ cf) (x : Nat → X) : CfgOk P { ρ with x := x } cf := ⟨h.eq, h.globs, h.F, h.mixed, h.fns, h.ctr, h.fn⟩

theorem run_callFunc {f : FuncId} {fn : Func} {args : Array Value} (hf : P.funcs[f]? = some fn) (hb : fn.body.isSome = true) (hn : (fn.name == "runtime.NumGoroutine") = false) (w : World) :
    (callFunc f args).run P w = .ok (.enter f args) w := by
  have hb' : fn.body.isNone = false := by cases h : fn.body <;> simp_all
  simp only [callFunc, Sem.run_bind, run_program, Result.andThen_ok, hf, hn, hb', Bool.false_eq_true, if_false]
  rfl

theorem GlobOk.up {gs : List (Nat × List Value)} {n m : Nat} (h : GlobOk gs n w) (hm : n ≤ m) : GlobOk gs m w := fun x hx => ⟨Nat.lt_of_lt_of_le (h x hx).1 hm, (h x hx).2⟩

theorem opQuiet_okB {o : Oper} {s : SV} {ow : Ow} (h : opQuiet P cf tm hp G o = some (s, ow)) (hc : CfgOk P ρ cf) (hp' : ow.Ok ρ) (hr : RTm ρ ls tm a) (hG : evB ρ G = true) (hh : HOk ρ B w0 ls hp w) :
    setUpon P (Below w.heap.size w) w (RV ρ ls s) ((execOp a.eval o).run P w) := by
  unfold opQuiet at h
  split at h
  · rename_i v obs hv
    cases h
    obtain ⟨z, hz, hz'⟩ := opPure_ok hv hc.eq hc.globs hp'.1 hr hG hh
    rw [hz]; exact ⟨rfl, hz'⟩
  · split at h
    · rename_i f args at_ ho
      split at h
      · rename_i f' hf
        split at h
        · rename_i vs hvs
          split at h
          · rename_i c es hcf
            cases h
            obtain ⟨hmem, rfl, hes⟩ := findCtr_ok hcf
            obtain ⟨fs, cs, he, h1, h2⟩ := opd_ok hf hr hG
            have hfs : fs = [] := by cases fs with | nil => rfl | cons _ _ => exact h1.elim
            have hcs : cs = [] := by cases cs with | nil => rfl | cons _ _ => exact h2.elim
            subst hfs hcs
            obtain ⟨hargs, hran⟩ := flat_ok hes (opds_ok hr hG hvs)
            have hpre : (match c.pre with | none => True | some k => ρ.p k (dsOf ρ es)) := by
              cases hcp : c.pre with
              | none => trivial
              | some k =>
                have := hp'.2
                rw [hcp] at this
                show ρ.p k (dsOf ρ es)
                rw [← ev_argE]; exact this
            have hmem' : c ∈ cf.ctrs ++ cf.qctrs := List.mem_append_left _ hmem
            have k2 := hc.ctr c hmem' (dsOf ρ es) w (hh.glob.up hh.size) hran hpre
            obtain ⟨fn, f1, f2, f3⟩ := hc.fn c hmem'
            have e : args.map a.eval = (args.toList.map a.eval).toArray := by rw [← Array.toList_map]
            have hrun : (execOp a.eval o).run P w = .ok (.enter c.f (args.toList.map a.eval).toArray) w := by
              simp only [execOp, ho, resolve, he, Deferred.ofValue, Sem.run_bind, Sem.run_pure, Result.andThen_ok, invoke, e]
              rw [run_callFunc f1 f2 f3]
              simp
            rw [hrun]
            refine ⟨rfl, ?_⟩
            rw [hargs]
            exact k2.mono fun e' w' ⟨v, g1, g2, g3⟩ => ⟨v, g1, resV_ok hc.F g2, g3⟩
          · cases h
        · cases h
      · cases h
    · cases h
theorem setUpon.cls {C D : World → Prop} {U : Value → Prop} (h : ∀ w', C w' → D w') {r : Result Next} (hr : setUpon P C w U r) : setUpon P D w U r := by
  cases r with
  | ok n w' =>
    cases n <;> simp only [setUpon] at hr ⊢
    case value u => exact hr
    case skip => exact hr
    case enter f args => exact ⟨hr.1, hr.2.mono fun e w'' ⟨v, h1, h2, h3⟩ => ⟨v, h1, h2, h _ h3⟩⟩
  | halt x w' => exact hr
theorem opQuiet_ok {o : Oper} {s : SV} {ow : Ow} (h : opQuiet P cf tm hp G o = some (s, ow)) (hc : CfgOk P ρ cf) (hp' : ow.Ok ρ) (hr : RTm ρ ls tm a) (hG : evB ρ G = true) (hh : HOk ρ B w0 ls hp w) :
    setUpon P (HOk ρ B w0 ls hp) w (RV ρ ls s) ((execOp a.eval o).run P w) := (opQuiet_okB h hc hp' hr hG hh).cls fun _ hb => hh.calls hb
end
end Vc
end Go.Proofs.YtfpecoddgdcaaaaDoor
