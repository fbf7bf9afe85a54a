/- A small calculus of symbolic values: expressions over integers and truth values, their meaning, and how they stand for the values of the model. Nothing of a program is in sight. -/
import Derived.WalkKit
namespace Go.Proofs.YtfpecoddgdcaaaaDoor
namespace Vc
open Go Go.RowKit

/-- Expressions: integers and truth values in one type. -/
inductive E where
  | ic (n : Int) | bc (b : Bool)
  | cv (v : Value)
  | var (k : Nat)
  | add (a b : E) | sub (a b : E) | mul (a b : E)
  | tdiv (a b : E) | tmod (a b : E) | div (a b : E) | mod (a b : E)
  | shl (a b : E) | shr (a b : E)
  | bit (op : BinOp) (k : IntKind) (a b : E)
  | wrap (k : IntKind) (a : E)
  | mx (a b : E) | mn (a b : E)
  | eq (a b : E) | lt (a b : E) | le (a b : E)
  | iff (a b : E) | veq (a b : E)
  | not (a : E) | and (a b : E) | or (a b : E)
  | ite (c a b : E)
  | app (f : Nat) (args : E) | nil | cons (a b : E)
  | sel (r i o : E)
  | rset (r i o e : E) | rtab (sz : Nat) (es : E) | rrep (es : E) | rcat (r n s : E) | rsh (r lo : E) | rcpy (r lo m s slo : E)
  deriving Inhabited

/-- What a cell of a row holds: an integer, a truth value, or a value that is not looked into. -/
structure Y where
  i : Int
  b : Bool
  v : Value
/-- What an expression means: an integer, a truth value, a value, a row of elements (index, part). -/
structure X where
  i : Int
  b : Bool
  v : Value
  r : Int → Int → Y
structure D where
  x : X
  l : List X

def y0 : Y := ⟨0, false, .nilIface⟩
def r0 : Int → Int → Y := fun _ _ => y0
def X.y (x : X) : Y := ⟨x.i, x.b, x.v⟩
def xI (n : Int) : X := ⟨n, false, .nilIface, r0⟩
def xB (b : Bool) : X := ⟨0, b, .nilIface, r0⟩
def xV (v : Value) : X := ⟨0, false, v, r0⟩
/-- A string: its length lies in the number. -/
def xS (s : ByteArray) : X := ⟨s.size, false, .string s, r0⟩
def xR (r : Int → Int → Y) : X := ⟨0, false, .nilIface, r⟩
def dI (n : Int) : D := ⟨xI n, []⟩
def dB (b : Bool) : D := ⟨xB b, []⟩
def dR (r : Int → Int → Y) : D := ⟨xR r, []⟩
def strEq : Value → Value → Bool
  | .string a, .string b => a.toList == b.toList
  | _, _ => false

structure Env where
  x : Nat → X
  f : Nat → List X → X
  p : Nat → List X → Prop
  g : List (Nat × List Value)

def ev (ρ : Env) : E → D
  | .ic n => dI n
  | .bc b => dB b
  | .cv v => ⟨xV v, []⟩
  | .var k => ⟨ρ.x k, []⟩
  | .add a b => dI ((ev ρ a).x.i + (ev ρ b).x.i)
  | .sub a b => dI ((ev ρ a).x.i - (ev ρ b).x.i)
  | .mul a b => dI ((ev ρ a).x.i * (ev ρ b).x.i)
  | .tdiv a b => dI ((ev ρ a).x.i.tdiv (ev ρ b).x.i)
  | .tmod a b => dI ((ev ρ a).x.i.tmod (ev ρ b).x.i)
  | .div a b => dI ((ev ρ a).x.i / (ev ρ b).x.i)
  | .mod a b => dI ((ev ρ a).x.i % (ev ρ b).x.i)
  | .shl a b => dI ((ev ρ a).x.i * 2 ^ (ev ρ b).x.i.toNat)
  | .shr a b => dI ((ev ρ a).x.i / 2 ^ (ev ρ b).x.i.toNat)
  | .bit op k a b => dI (bits op k (ev ρ a).x.i (ev ρ b).x.i)
  | .wrap k a => dI (k.wrap (ev ρ a).x.i)
  | .mx a b => dI (max (ev ρ a).x.i (ev ρ b).x.i)
  | .mn a b => dI (min (ev ρ a).x.i (ev ρ b).x.i)
  | .eq a b => dB (decide ((ev ρ a).x.i = (ev ρ b).x.i))
  | .lt a b => dB (decide ((ev ρ a).x.i < (ev ρ b).x.i))
  | .le a b => dB (decide ((ev ρ a).x.i ≤ (ev ρ b).x.i))
  | .iff a b => dB ((ev ρ a).x.b == (ev ρ b).x.b)
  | .veq a b => dB (strEq (ev ρ a).x.v (ev ρ b).x.v)
  | .not a => dB (!(ev ρ a).x.b)
  | .and a b => dB ((ev ρ a).x.b && (ev ρ b).x.b)
  | .or a b => dB ((ev ρ a).x.b || (ev ρ b).x.b)
  | .ite c a b => ⟨⟨bif (ev ρ c).x.b then (ev ρ a).x.i else (ev ρ b).x.i, bif (ev ρ c).x.b then (ev ρ a).x.b else (ev ρ b).x.b, bif (ev ρ c).x.b then (ev ρ a).x.v else (ev ρ b).x.v, bif (ev ρ c).x.b then (ev ρ a).x.r else (ev ρ b).x.r⟩, []⟩
  | .app f a => ⟨ρ.f f (ev ρ a).l, []⟩
  | .nil => ⟨xI 0, []⟩
  | .cons a b => ⟨xI 0, (ev ρ a).x :: (ev ρ b).l⟩
  | .sel r i o => ⟨⟨((ev ρ r).x.r (ev ρ i).x.i (ev ρ o).x.i).i, ((ev ρ r).x.r (ev ρ i).x.i (ev ρ o).x.i).b, ((ev ρ r).x.r (ev ρ i).x.i (ev ρ o).x.i).v, r0⟩, []⟩
  | .rset r i o e => dR fun j p => if j = (ev ρ i).x.i ∧ p = (ev ρ o).x.i then (ev ρ e).x.y else (ev ρ r).x.r j p
  | .rtab sz es => dR fun j p => ((ev ρ es).l.getD (j.toNat * sz + p.toNat) (xI 0)).y
  | .rrep es => dR fun _ p => ((ev ρ es).l.getD p.toNat (xI 0)).y
  | .rcat r n s => dR fun j p => if j < (ev ρ n).x.i then (ev ρ r).x.r j p else (ev ρ s).x.r (j - (ev ρ n).x.i) p
  | .rsh r lo => dR fun j p => (ev ρ r).x.r (j + (ev ρ lo).x.i) p
  | .rcpy r lo m s slo => dR fun j p => if (ev ρ lo).x.i ≤ j ∧ j < (ev ρ lo).x.i + (ev ρ m).x.i then (ev ρ s).x.r (j - (ev ρ lo).x.i + (ev ρ slo).x.i) p else (ev ρ r).x.r j p

abbrev evI (ρ : Env) (e : E) : Int := (ev ρ e).x.i
abbrev evB (ρ : Env) (e : E) : Bool := (ev ρ e).x.b
abbrev evR (ρ : Env) (e : E) : Int → Int → Y := (ev ρ e).x.r

/-- A truth value as a proposition, taken apart. -/
def evP (ρ : Env) : E → Prop
  | .bc b => b = true
  | .not a => ¬ evP ρ a
  | .and a b => evP ρ a ∧ evP ρ b
  | .or a b => evP ρ a ∨ evP ρ b
  | .eq a b => (ev ρ a).x.i = (ev ρ b).x.i
  | .lt a b => (ev ρ a).x.i < (ev ρ b).x.i
  | .le a b => (ev ρ a).x.i ≤ (ev ρ b).x.i
  | e => (ev ρ e).x.b = true

theorem evP_iff (ρ : Env) (e : E) : evP ρ e ↔ (ev ρ e).x.b = true := by
  induction e <;> simp_all [evP, ev, dB, xB]

/-! ### Expressions built with constants folded -/
def sameStr : Value → Value → Bool
  | .string a, .string b => a.data.toList == b.data.toList
  | _, _ => false
theorem sameStr_ok {u v : Value} (h : sameStr u v = true) : u = v := by
  unfold sameStr at h
  split at h
  · rename_i a b
    obtain ⟨⟨a⟩⟩ := a
    obtain ⟨⟨b⟩⟩ := b
    simp at h
    subst h; rfl
  · cases h
def eqE : E → E → Bool
  | .ic n, .ic m => n == m
  | .bc a, .bc b => a == b
  | .cv a, .cv b => sameStr a b
  | .var a, .var b => a == b
  | .add a b, .add c d => eqE a c && eqE b d
  | .sub a b, .sub c d => eqE a c && eqE b d
  | .mul a b, .mul c d => eqE a c && eqE b d
  | .tdiv a b, .tdiv c d => eqE a c && eqE b d
  | .tmod a b, .tmod c d => eqE a c && eqE b d
  | .div a b, .div c d => eqE a c && eqE b d
  | .mod a b, .mod c d => eqE a c && eqE b d
  | .shl a b, .shl c d => eqE a c && eqE b d
  | .shr a b, .shr c d => eqE a c && eqE b d
  | .bit o k a b, .bit p l c d => decide (o = p) && decide (k = l) && eqE a c && eqE b d
  | .wrap k a, .wrap l b => decide (k = l) && eqE a b
  | .mx a b, .mx c d => eqE a c && eqE b d
  | .mn a b, .mn c d => eqE a c && eqE b d
  | .eq a b, .eq c d => eqE a c && eqE b d
  | .lt a b, .lt c d => eqE a c && eqE b d
  | .le a b, .le c d => eqE a c && eqE b d
  | .iff a b, .iff c d => eqE a c && eqE b d
  | .not a, .not b => eqE a b
  | .and a b, .and c d => eqE a c && eqE b d
  | .or a b, .or c d => eqE a c && eqE b d
  | .ite e a b, .ite f c d => eqE e f && eqE a c && eqE b d
  | .app f a, .app g b => f == g && eqE a b
  | .nil, .nil => true
  | .cons a b, .cons c d => eqE a c && eqE b d
  | .sel r a o, .sel s b p => eqE r s && eqE a b && eqE o p
  | .veq a b, .veq c d => eqE a c && eqE b d
  | .rset r i o e, .rset s j p f => eqE r s && eqE i j && eqE o p && eqE e f
  | .rtab n e, .rtab m f => n == m && eqE e f
  | .rrep e, .rrep f => eqE e f
  | .rcat r n s, .rcat r' n' s' => eqE r r' && eqE n n' && eqE s s'
  | .rsh r n, .rsh s m => eqE r s && eqE n m
  | .rcpy a b c d e, .rcpy a' b' c' d' e' => eqE a a' && eqE b b' && eqE c c' && eqE d d' && eqE e e'
  | _, _ => false

theorem eqE_eq {a b : E} (h : eqE a b = true) : a = b := by
  induction a generalizing b <;> cases b <;> first
    | exact Bool.noConfusion (show false = true from h)
    | rfl
    | (exact congrArg E.cv (sameStr_ok h))
    | (simp only [eqE, Bool.and_eq_true, beq_iff_eq, decide_eq_true_eq] at h; grind)

def eAdd : E → E → E
  | .ic n, .ic m => .ic (n + m)
  | a, .ic m => if m = 0 then a else .add a (.ic m)
  | .ic n, b => if n = 0 then b else .add (.ic n) b
  | a, b => .add a b
def eSub : E → E → E
  | .ic n, .ic m => .ic (n - m)
  | a, .ic m => if m = 0 then a else .sub a (.ic m)
  | a, b => .sub a b
def eMul : E → E → E
  | .ic n, .ic m => .ic (n * m)
  | a, .ic m => if m = 1 then a else if m = 0 then .ic 0 else .mul a (.ic m)
  | .ic n, b => if n = 1 then b else if n = 0 then .ic 0 else .mul (.ic n) b
  | a, b => .mul a b
def eNot : E → E
  | .bc b => .bc (!b)
  | .not a => a
  | a => .not a
def eAnd : E → E → E
  | .bc x, b => if x then b else .bc false
  | a, .bc y => if y then a else .bc false
  | a, b => .and a b
def eOr : E → E → E
  | .bc x, b => if x then .bc true else b
  | a, .bc y => if y then .bc true else a
  | a, b => .or a b
def eIteI (c a b : E) : E := match c with
  | .bc x => if x then a else b
  | c => if eqE a b then a else .ite c a b
def eIteB (c a b : E) : E := match c with
  | .bc x => if x then a else b
  | c => match a, b with
    | .bc x, .bc y => if x then (if y then .bc true else c) else (if y then eNot c else .bc false)
    | .bc x, b => if x then eOr c b else eAnd (eNot c) b
    | a, .bc y => if y then eOr (eNot c) a else eAnd c a
    | a, b => if eqE a b then a else .ite c a b

variable (ρ : Env)
theorem ev_eAdd (a b : E) : (ev ρ (eAdd a b)).x.i = (ev ρ a).x.i + (ev ρ b).x.i := by
  unfold eAdd; split <;> (try split) <;> simp_all [ev, dI, xI]
theorem ev_eSub (a b : E) : (ev ρ (eSub a b)).x.i = (ev ρ a).x.i - (ev ρ b).x.i := by
  unfold eSub; split <;> (try split) <;> simp_all [ev, dI, xI]
theorem ev_eMul (a b : E) : (ev ρ (eMul a b)).x.i = (ev ρ a).x.i * (ev ρ b).x.i := by
  unfold eMul; split <;> (try split) <;> (try split) <;> simp_all [ev, dI, xI]
theorem ev_eNot (a : E) : (ev ρ (eNot a)).x.b = !(ev ρ a).x.b := by
  unfold eNot; split <;> simp_all [ev, dB, xB]
theorem ev_eAnd (a b : E) : (ev ρ (eAnd a b)).x.b = ((ev ρ a).x.b && (ev ρ b).x.b) := by
  unfold eAnd; split <;> (try split) <;> simp_all [ev, dB, xB]
theorem ev_eOr (a b : E) : (ev ρ (eOr a b)).x.b = ((ev ρ a).x.b || (ev ρ b).x.b) := by
  unfold eOr; split <;> (try split) <;> simp_all [ev, dB, xB]
theorem ev_eIteI (c a b : E) : (ev ρ (eIteI c a b)).x.i = bif (ev ρ c).x.b then (ev ρ a).x.i else (ev ρ b).x.i := by
  unfold eIteI; split
  · split <;> simp_all [ev, dB, xB]
  · split
    · rename_i h; rw [eqE_eq h]; cases (ev ρ c).x.b <;> rfl
    · simp [ev]
theorem ev_eIteB (c a b : E) : (ev ρ (eIteB c a b)).x.b = bif (ev ρ c).x.b then (ev ρ a).x.b else (ev ρ b).x.b := by
  unfold eIteB; split
  · split <;> simp_all [ev, dB, xB]
  · rename_i c' _
    split
    · split <;> split <;> simp_all [ev, dB, xB, ev_eNot] <;> cases (ev ρ c).x.b <;> rfl
    · split <;> simp_all [ev_eOr, ev_eAnd, ev_eNot] <;> simp_all [ev, dB, xB] <;> cases (ev ρ c).x.b <;> simp
    · split <;> simp_all [ev_eOr, ev_eAnd, ev_eNot] <;> simp_all [ev, dB, xB] <;> cases (ev ρ c).x.b <;> simp
    · split
      · rename_i h; rw [eqE_eq h]; cases (ev ρ c).x.b <;> rfl
      · simp [ev]

/-! ### Reading a row -/
def nthE : E → Nat → Option E
  | .cons a _, 0 => some a
  | .cons _ b, n + 1 => nthE b n
  | _, _ => none
theorem nthE_ok : ∀ {es : E} {n : Nat} {e : E}, nthE es n = some e → (ev ρ es).l[n]? = some (ev ρ e).x := by
  intro es
  induction es with
  | cons a b _ ih =>
    intro n e h
    cases n with
    | zero => cases h; rfl
    | succ n => exact ih h
  | _ => intro n e h; cases n <;> cases h
def eSel : E → E → E → E
  | .rtab sz es, .ic i, .ic o => if 0 ≤ i ∧ 0 ≤ o then (match nthE es (i.toNat * sz + o.toNat) with | some e => e | none => .sel (.rtab sz es) (.ic i) (.ic o)) else .sel (.rtab sz es) (.ic i) (.ic o)
  | .rrep es, i, .ic o => if 0 ≤ o then (match nthE es o.toNat with | some e => e | none => .sel (.rrep es) i (.ic o)) else .sel (.rrep es) i (.ic o)
  | .rset r (.ic i') (.ic o') e, .ic i, .ic o => if i = i' ∧ o = o' then e else eSel r (.ic i) (.ic o)
  | .rset r i' (.ic o') e, i, .ic o => if o = o' then (if eqE i i' then e else .sel (.rset r i' (.ic o') e) i (.ic o)) else eSel r i (.ic o)
  | .rsh r lo, i, o => eSel r (eAdd i lo) o
  | r, i, o => .sel r i o
theorem ev_eSel (r i o : E) : (ev ρ (eSel r i o)).x.y = (ev ρ r).x.r (ev ρ i).x.i (ev ρ o).x.i := by
  have hy : ∀ (l : List X) (n : Nat) (x : X), l[n]? = some x → x.y = (l.getD n (xI 0)).y := fun l n x h => by rw [List.getD_eq_getElem?_getD, h]; rfl
  fun_induction eSel r i o with
  | case1 sz es i o h e he => exact hy _ _ _ (nthE_ok ρ he)
  | case4 es i o h e he => exact hy _ _ _ (nthE_ok ρ he)
  | case7 r i' o' e i o h => exact (if_pos h).symm
  | case8 r i' o' e i o h ih => exact ih.trans (if_neg h).symm
  | case9 r i' o' e i h => rename_i hi; have := eqE_eq hi; subst this; exact (if_pos ⟨rfl, rfl⟩).symm
  | case11 => rename_i hno ih; exact ih.trans (if_neg (fun hh => hno hh.2)).symm
  | case12 r lo i o ih => rw [ih]; show _ = (ev ρ r).x.r _ _; rw [ev_eAdd]
  | _ => rfl

/-! ### Expressions that look at no variable from m on -/
def E.blw (m : Nat) : E → Bool
  | .ic _ | .bc _ | .cv _ | .nil => true
  | .var k => decide (k < m)
  | .add a b | .sub a b | .mul a b | .tdiv a b | .tmod a b | .div a b | .mod a b | .shl a b | .shr a b | .bit _ _ a b | .mx a b | .mn a b | .eq a b | .lt a b | .le a b | .iff a b | .veq a b | .and a b | .or a b | .cons a b | .rsh a b => a.blw m && b.blw m
  | .wrap _ a | .not a | .app _ a | .rtab _ a | .rrep a => a.blw m
  | .ite a b c | .sel a b c | .rcat a b c => a.blw m && b.blw m && c.blw m
  | .rset a b c d => a.blw m && b.blw m && c.blw m && d.blw m
  | .rcpy a b c d e => a.blw m && b.blw m && c.blw m && d.blw m && e.blw m
/-- Two environments that agree below m. -/
structure Agree (m : Nat) (ρ ρ' : Env) : Prop where
  x : ∀ k, k < m → ρ'.x k = ρ.x k
  f : ρ'.f = ρ.f
  p : ρ'.p = ρ.p
  g : ρ'.g = ρ.g
theorem Agree.refl (m : Nat) (ρ : Env) : Agree m ρ ρ := ⟨fun _ _ => rfl, rfl, rfl, rfl⟩
theorem Agree.mono {m n : Nat} {ρ ρ' : Env} (h : Agree m ρ ρ') (hn : n ≤ m) : Agree n ρ ρ' := ⟨fun k hk => h.x k (by omega), h.f, h.p, h.g⟩
theorem Agree.trans {m : Nat} {ρ ρ' ρ'' : Env} (h : Agree m ρ ρ') (k : Agree m ρ' ρ'') : Agree m ρ ρ'' := ⟨fun i hi => (k.x i hi).trans (h.x i hi), k.f.trans h.f, k.p.trans h.p, k.g.trans h.g⟩
theorem Agree.symm {m : Nat} {ρ ρ' : Env} (h : Agree m ρ ρ') : Agree m ρ' ρ := ⟨fun k hk => (h.x k hk).symm, h.f.symm, h.p.symm, h.g.symm⟩
theorem ev_agree {m : Nat} {ρ ρ' : Env} (h : Agree m ρ ρ') {e : E} (he : e.blw m = true) : ev ρ' e = ev ρ e := by
  induction e <;> simp only [E.blw, Bool.and_eq_true, decide_eq_true_eq] at he <;> simp_all only [ev]
  case var k => rw [h.x k he]
  case app f a ih => rw [h.f]

end Vc
end Go.Proofs.YtfpecoddgdcaaaaDoor
