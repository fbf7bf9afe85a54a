/- Symbolic values beside the model's values, and the integer operators on them with their ranges. -/
import Derived.Test.YtfpecoddgdcaaaaDoorVcA
namespace Go.Proofs.YtfpecoddgdcaaaaDoor
namespace Vc
open Go Go.RowKit

/-! ### Two lists, place by place -/
def All2 {α β : Type} (R : α → β → Prop) : List α → List β → Prop
  | [], [] => True
  | a :: as, b :: bs => R a b ∧ All2 R as bs
  | _, _ => False

section
variable {α β : Type} {R S : α → β → Prop}
theorem All2.len : ∀ {as : List α} {bs : List β}, All2 R as bs → as.length = bs.length
  | [], [], _ => rfl
  | _ :: _, _ :: _, h => by simp [All2.len h.2]
theorem All2.get : ∀ {as : List α} {bs : List β}, All2 R as bs → ∀ {i : Nat} {a : α}, as[i]? = some a → ∃ b, bs[i]? = some b ∧ R a b
  | a :: _, b :: _, h, 0, x, hx => by simp at hx; subst hx; exact ⟨b, rfl, h.1⟩
  | _ :: as, _ :: bs, h, i + 1, x, hx => by simp at hx; obtain ⟨b, hb, hr⟩ := All2.get h.2 hx; exact ⟨b, by simpa using hb, hr⟩
theorem All2.none : ∀ {as : List α} {bs : List β}, All2 R as bs → ∀ {i : Nat}, as[i]? = none → bs[i]? = none := fun h i hi => by
  have := h.len; simp at hi ⊢; omega
theorem All2.mono (hRS : ∀ a b, R a b → S a b) : ∀ {as : List α} {bs : List β}, All2 R as bs → All2 S as bs
  | [], [], _ => trivial
  | _ :: _, _ :: _, h => ⟨hRS _ _ h.1, All2.mono hRS h.2⟩
theorem All2.set : ∀ {as : List α} {bs : List β}, All2 R as bs → ∀ (i : Nat) {a : α} {b : β}, R a b → All2 R (as.set i a) (bs.set i b)
  | [], [], _, _, _, _, _ => trivial
  | _ :: _, _ :: _, h, 0, _, _, hr => ⟨hr, h.2⟩
  | _ :: _, _ :: _, h, i + 1, _, _, hr => ⟨h.1, All2.set h.2 i hr⟩
theorem All2.append : ∀ {as : List α} {bs : List β} {as' : List α} {bs' : List β}, All2 R as bs → All2 R as' bs' → All2 R (as ++ as') (bs ++ bs')
  | [], [], _, _, _, h => h
  | _ :: _, _ :: _, _, _, h, h' => ⟨h.1, All2.append h.2 h'⟩
theorem All2.drop : ∀ {as : List α} {bs : List β}, All2 R as bs → ∀ n, All2 R (as.drop n) (bs.drop n)
  | [], [], _, n => by simp [All2]
  | _ :: _, _ :: _, h, 0 => h
  | _ :: _, _ :: _, h, n + 1 => All2.drop h.2 n
theorem All2.take : ∀ {as : List α} {bs : List β}, All2 R as bs → ∀ n, All2 R (as.take n) (bs.take n)
  | [], [], _, n => by simp [All2]
  | _ :: _, _ :: _, _, 0 => trivial
  | _ :: _, _ :: _, h, n + 1 => ⟨h.1, All2.take h.2 n⟩
end
theorem All2.map_self {α β : Type} {R : α → β → Prop} (f : β → α) : ∀ (bs : List β), (∀ b ∈ bs, R (f b) b) → All2 R (bs.map f) bs
  | [], _ => trivial
  | b :: bs, h => ⟨h b (by simp), All2.map_self f bs fun x hx => h x (by simp [hx])⟩

/-! ### Symbolic values -/
abbrev PV := Nat × Nat

inductive SC where
  | und
  | int (k : IntKind) (e : E) (lo hi : Int)
  | bool (e : E)
  | ptr (l off : Nat)
  | fn (f : Nat) (first cap : List PV)
  | cst (v : Value)
  | opv (e : E)
  | str (e : E) (hi : Int)
  | gl (g off : Nat)
  | ow (l : Nat)
  | sl (l sz : Nat) (lo n : E) (hi : Int)
  | sc (l off n cap : Nat)
  | pe (l sz : Nat) (i : E) (off : Nat)
  | ln (n : E) (hi : Int)
  deriving Inhabited

inductive SV where
  | c (s : SC)
  | agg (l : List SC)
  | tup (l : List (Bool × List SC))
  deriving Inhabited

structure Tm where
  g : E
  v : SV
  deriving Inhabited

abbrev Ls := List Value

def RP (ls : Ls) (p : PV) (v : Value) : Prop := ∃ a, ls[p.1]? = some (.pointer (some a)) ∧ v = .pointer (some (a.add p.2))

def RS (ρ : Env) (ls : Ls) : SC → Value → Prop
  | .und, _ => True
  | .int k e lo hi, v => v = .int k (evI ρ e) ∧ lo ≤ evI ρ e ∧ evI ρ e ≤ hi
  | .bool e, v => v = .bool (evB ρ e)
  | .ptr l off, v => RP ls (l, off) v
  | .fn f first cap, v => ∃ fs cs, v = .func (.func f) fs.toArray cs.toArray ∧ All2 (RP ls) first fs ∧ All2 (RP ls) cap cs
  | .cst u, v => v = u
  | .opv e, v => v = (ev ρ e).x.v ∧ v.oneCell' = true
  | .str e hi, v => ∃ s : ByteArray, v = .string s ∧ (ev ρ e).x.v = .string s ∧ evI ρ e = s.size ∧ (s.size : Int) ≤ hi
  | .gl g off, v => v = .pointer (some ⟨g, off, none⟩)
  | .ow l, v => ls[l]? = some v ∧ ∃ A n c, v = .slice A n c
  | .sl l sz lo n hi, v => ∃ A N C A' c, ls[l]? = some (.slice A N C) ∧ v = .slice A' (evI ρ n).toNat c ∧ 0 ≤ evI ρ lo ∧ 0 ≤ evI ρ n ∧ evI ρ n ≤ hi ∧ (evI ρ lo).toNat + (evI ρ n).toNat ≤ N ∧ (evI ρ n).toNat ≤ c ∧
      (0 < (evI ρ n).toNat → ∃ a, A = some a ∧ A' = some (a.add ((evI ρ lo).toNat * sz)))
  | .sc l off n cap, v => n ≤ cap ∧ ∃ a, ls[l]? = some (.pointer (some a)) ∧ v = .slice (some (a.add off)) n cap
  | .pe l sz i off, v => ∃ a N C, ls[l]? = some (.slice (some a) N C) ∧ v = .pointer (some (a.add ((evI ρ i).toNat * sz + off))) ∧ 0 ≤ evI ρ i ∧ (evI ρ i).toNat < N
  | .ln n hi, v => ∃ A c, v = .slice A (evI ρ n).toNat c ∧ 0 ≤ evI ρ n ∧ evI ρ n ≤ hi

def RE (ρ : Env) (ls : Ls) : Bool × List SC → Value → Prop
  | (true, l), v => ∃ vs, v = .agg vs.toArray ∧ All2 (RS ρ ls) l vs
  | (false, [s]), v => RS ρ ls s v
  | _, _ => False

def RV (ρ : Env) (ls : Ls) : SV → Value → Prop
  | .c s, v => RS ρ ls s v
  | .agg l, v => ∃ vs, v = .agg vs.toArray ∧ All2 (RS ρ ls) l vs
  | .tup l, v => ∃ vs, v = .tuple vs.toArray ∧ All2 (RE ρ ls) l vs

def RT (ρ : Env) (ls : Ls) (t : Tm) (v : Value) : Prop := (evB ρ t.g = true → RV ρ ls t.v v) ∧ (evB ρ t.g = false → v = undef)

/-- The locations may grow. -/
def Ext (ls ls' : Ls) : Prop := ∀ (i : Nat) (b : Value), ls[i]? = some b → ls'[i]? = some b
theorem Ext.refl (ls : Ls) : Ext ls ls := fun _ _ h => h
theorem Ext.trans {a b c : Ls} (h : Ext a b) (k : Ext b c) : Ext a c := fun _ _ x => k _ _ (h _ _ x)
theorem Ext.snoc (ls : Ls) (n : Value) : Ext ls (ls ++ [n]) := fun i b h => by
  rw [List.getElem?_append_left]; exact h
  exact (List.getElem?_eq_some_iff.1 h).1

section
variable {ρ : Env} {ls ls' : Ls}
theorem RP.ext (h : Ext ls ls') {p : PV} {v : Value} (hp : RP ls p v) : RP ls' p v := let ⟨b, h1, h2⟩ := hp; ⟨b, h _ _ h1, h2⟩
theorem RS.ext (h : Ext ls ls') {s : SC} {v : Value} (hs : RS ρ ls s v) : RS ρ ls' s v := by
  cases s with
  | ptr l off => exact RP.ext h hs
  | fn f first cap => obtain ⟨fs, cs, h1, h2, h3⟩ := hs; exact ⟨fs, cs, h1, h2.mono fun _ _ => RP.ext h, h3.mono fun _ _ => RP.ext h⟩
  | ow l => exact ⟨h _ _ hs.1, hs.2⟩
  | sl l sz lo n hi => obtain ⟨A, N, C, A', c, h1, h2⟩ := hs; exact ⟨A, N, C, A', c, h _ _ h1, h2⟩
  | sc l off n cap => obtain ⟨h0, a, h1, h2⟩ := hs; exact ⟨h0, a, h _ _ h1, h2⟩
  | pe l sz i off => obtain ⟨a, N, C, h1, h2⟩ := hs; exact ⟨a, N, C, h _ _ h1, h2⟩
  | _ => exact hs
theorem RE.ext (h : Ext ls ls') {s : Bool × List SC} {v : Value} (hs : RE ρ ls s v) : RE ρ ls' s v := by
  obtain ⟨b, l⟩ := s
  cases b with
  | true => obtain ⟨vs, h1, h2⟩ := hs; exact ⟨vs, h1, h2.mono fun _ _ => RS.ext h⟩
  | false => match l, hs with | [s], hs => exact RS.ext h hs
theorem RV.ext (h : Ext ls ls') {s : SV} {v : Value} (hs : RV ρ ls s v) : RV ρ ls' s v := by
  cases s with
  | c s => exact RS.ext h hs
  | agg l => obtain ⟨vs, h1, h2⟩ := hs; exact ⟨vs, h1, h2.mono fun _ _ => RS.ext h⟩
  | tup l => obtain ⟨vs, h1, h2⟩ := hs; exact ⟨vs, h1, h2.mono fun _ _ => RE.ext h⟩
theorem RT.ext (h : Ext ls ls') {t : Tm} {v : Value} (ht : RT ρ ls t v) : RT ρ ls' t v := ⟨fun g => RV.ext h (ht.1 g), ht.2⟩
end

/-! ### What a symbolic value looks at: locations (p) and variables below m -/
def PV.av (p : Nat → Bool) (l : List PV) : Bool := l.all fun x => p x.1
def SC.av (p : Nat → Bool) (m : Nat) : SC → Bool
  | .und | .cst _ | .gl _ _ => true
  | .int _ e _ _ | .bool e | .opv e | .str e _ | .ln e _ => e.blw m
  | .ptr l _ | .ow l | .sc l _ _ _ => p l
  | .fn _ a b => PV.av p a && PV.av p b
  | .sl l _ lo n _ => p l && lo.blw m && n.blw m
  | .pe l _ i _ => p l && i.blw m
def SV.av (p : Nat → Bool) (m : Nat) : SV → Bool
  | .c s => s.av p m
  | .agg l => l.all (SC.av p m)
  | .tup l => l.all fun x => x.2.all (SC.av p m)
def Tm.av (p : Nat → Bool) (m : Nat) (t : Tm) : Bool := t.g.blw m && t.v.av p m

/-- Locations and variables have moved, but for those that p and m name. -/
structure Moved (p : Nat → Bool) (m : Nat) (ρ ρ' : Env) (ls ls' : Ls) : Prop where
  ag : Agree m ρ ρ'
  ls : ∀ l, p l = true → ls'[l]? = ls[l]?

section
variable {p : Nat → Bool} {m : Nat} {ρ ρ' : Env} {ls ls' : Ls}
theorem RP.move (h : Moved p m ρ ρ' ls ls') {x : PV} {v : Value} (hx : p x.1 = true) (hp : RP ls x v) : RP ls' x v := by
  obtain ⟨a, h1, h2⟩ := hp
  exact ⟨a, by rw [h.ls _ hx]; exact h1, h2⟩
theorem RPs.move (h : Moved p m ρ ρ' ls ls') : ∀ {x : List PV} {v : List Value}, PV.av p x = true → All2 (RP ls) x v → All2 (RP ls') x v
  | [], [], _, _ => trivial
  | x :: xs, v :: vs, hx, hp => by
    simp only [PV.av, List.all_cons, Bool.and_eq_true] at hx
    exact ⟨RP.move h hx.1 hp.1, RPs.move h hx.2 hp.2⟩
theorem RS.move (h : Moved p m ρ ρ' ls ls') {s : SC} {v : Value} (hs : s.av p m = true) (hr : RS ρ ls s v) : RS ρ' ls' s v := by
  cases s <;> simp only [SC.av, Bool.and_eq_true] at hs
  case und => trivial
  case int k e lo hi => simp only [RS, evI] at hr ⊢; rw [ev_agree h.ag hs]; exact hr
  case bool e => simp only [RS, evB] at hr ⊢; rw [ev_agree h.ag hs]; exact hr
  case ptr l off => exact RP.move h hs hr
  case fn f a b => obtain ⟨fs, cs, h1, h2, h3⟩ := hr; exact ⟨fs, cs, h1, RPs.move h hs.1 h2, RPs.move h hs.2 h3⟩
  case cst u => exact hr
  case opv e => simp only [RS] at hr ⊢; rw [ev_agree h.ag hs]; exact hr
  case str e hi => simp only [RS, evI] at hr ⊢; rw [ev_agree h.ag hs]; exact hr
  case gl g off => exact hr
  case ow l => simp only [RS] at hr ⊢; rw [h.ls _ hs]; exact hr
  case sl l sz lo n hi => simp only [RS, evI] at hr ⊢; rw [ev_agree h.ag hs.2, ev_agree h.ag hs.1.2, h.ls _ hs.1.1]; exact hr
  case sc l off n cap => simp only [RS] at hr ⊢; rw [h.ls _ hs]; exact hr
  case pe l sz i off => simp only [RS, evI] at hr ⊢; rw [ev_agree h.ag hs.2, h.ls _ hs.1]; exact hr
  case ln n hi => simp only [RS, evI] at hr ⊢; rw [ev_agree h.ag hs]; exact hr
theorem RSs.move (h : Moved p m ρ ρ' ls ls') : ∀ {x : List SC} {v : List Value}, x.all (SC.av p m) = true → All2 (RS ρ ls) x v → All2 (RS ρ' ls') x v
  | [], [], _, _ => trivial
  | x :: xs, v :: vs, hx, hp => by
    simp only [List.all_cons, Bool.and_eq_true] at hx
    exact ⟨RS.move h hx.1 hp.1, RSs.move h hx.2 hp.2⟩
theorem RE.move (h : Moved p m ρ ρ' ls ls') {s : Bool × List SC} {v : Value} (hs : s.2.all (SC.av p m) = true) (hr : RE ρ ls s v) : RE ρ' ls' s v := by
  obtain ⟨b, l⟩ := s
  cases b with
  | true => obtain ⟨vs, h1, h2⟩ := hr; exact ⟨vs, h1, RSs.move h hs h2⟩
  | false =>
    match l, hs, hr with
    | [s], hs, hr =>
      simp only [List.all_cons, List.all_nil, Bool.and_true] at hs
      exact RS.move h hs hr
theorem REs.move (h : Moved p m ρ ρ' ls ls') : ∀ {x : List (Bool × List SC)} {v : List Value}, (x.all fun y => y.2.all (SC.av p m)) = true → All2 (RE ρ ls) x v → All2 (RE ρ' ls') x v
  | [], [], _, _ => trivial
  | x :: xs, v :: vs, hx, hp => by
    simp only [List.all_cons, Bool.and_eq_true] at hx
    exact ⟨RE.move h hx.1 hp.1, REs.move h hx.2 hp.2⟩
theorem RV.move (h : Moved p m ρ ρ' ls ls') {s : SV} {v : Value} (hs : s.av p m = true) (hr : RV ρ ls s v) : RV ρ' ls' s v := by
  cases s with
  | c s => exact RS.move h hs hr
  | agg l => obtain ⟨vs, h1, h2⟩ := hr; exact ⟨vs, h1, RSs.move h hs h2⟩
  | tup l => obtain ⟨vs, h1, h2⟩ := hr; exact ⟨vs, h1, REs.move h hs h2⟩
theorem RT.move (h : Moved p m ρ ρ' ls ls') {t : Tm} {v : Value} (ht : t.av p m = true) (hr : RT ρ ls t v) : RT ρ' ls' t v := by
  simp only [Tm.av, Bool.and_eq_true] at ht
  unfold RT evB at *
  rw [ev_agree h.ag ht.1]
  exact ⟨fun g => RV.move h ht.2 (hr.1 g), hr.2⟩
end

/-- Surely the value of one cell. -/
def SC.one : SC → Bool
  | .und => false
  | .cst v => v.oneCell'
  | _ => true
theorem RS.oneCell {ρ : Env} {ls : Ls} {s : SC} {v : Value} (h : RS ρ ls s v) (hs : s.one = true) : v.oneCell' = true := by
  cases s <;> simp [SC.one] at hs <;> simp only [RS] at h
  · obtain ⟨rfl, _⟩ := h; rfl
  · subst h; rfl
  · obtain ⟨b, _, rfl⟩ := h; rfl
  · obtain ⟨_, _, rfl, _⟩ := h; rfl
  · subst h; exact hs
  · exact h.2
  · obtain ⟨s, rfl, _⟩ := h; rfl
  · subst h; rfl
  · obtain ⟨_, A, n, c, rfl⟩ := h; rfl
  · obtain ⟨A, N, C, A', c, _, rfl, _⟩ := h; rfl
  · obtain ⟨_, a, _, rfl⟩ := h; rfl
  · obtain ⟨a, N, C, _, rfl, _⟩ := h; rfl
  · obtain ⟨A, c, rfl, _⟩ := h; rfl
theorem cells_of_one {v : Value} (h : v.oneCell' = true) : v.cells = #[v] := by cases v <;> simp_all [Value.oneCell', Value.cells]

/-! ### Constants of the program as symbolic values -/
def scOf : Value → SC
  | .int k n => .int k (.ic n) n n
  | .bool b => .bool (.bc b)
  | v => .cst v
def svOf : Value → SV
  | .agg cs => .agg (cs.toList.map scOf)
  | v => .c (scOf v)
theorem RS_scOf (ρ : Env) (ls : Ls) (v : Value) : RS ρ ls (scOf v) v := by
  cases v <;> simp [scOf, RS, evI, evB, ev, dI, dB, xI, xB]
theorem RV_svOf (ρ : Env) (ls : Ls) (v : Value) : RV ρ ls (svOf v) v := by
  cases v with
  | agg cs => exact ⟨cs.toList, by simp, All2.map_self scOf _ fun b _ => RS_scOf ρ ls b⟩
  | _ => simp only [svOf, RV]; exact RS_scOf ρ ls _

/-! ### Integers with a range -/
def kmin : IntKind → Int
  | .i8 => -128 | .i16 => -32768 | .i32 => -2147483648 | .i64 => -9223372036854775808 | _ => 0
def kmax : IntKind → Int
  | .i8 => 127 | .i16 => 32767 | .i32 => 2147483647 | .i64 => 9223372036854775807
  | .u8 => 255 | .u16 => 65535 | .u32 => 4294967295 | .u64 => 18446744073709551615
theorem wrap_fits {k : IntKind} {n : Int} (h : kmin k ≤ n ∧ n ≤ kmax k) : k.wrap n = n := by
  cases k <;> simp only [kmin, kmax] at h
  · exact IntWalk.i8_in n h
  · exact IntWalk.i16_in n h
  · exact IntWalk.i32_in n h
  · exact IntWalk.i64_in n h
  · exact IntWalk.u8_in n h
  · exact IntWalk.u16_in n h
  · exact IntWalk.u32_in n h
  · exact IntWalk.u64_in n h
theorem wrap_range (k : IntKind) (n : Int) : kmin k ≤ k.wrap n ∧ k.wrap n ≤ kmax k := by
  cases k <;> simp only [kmin, kmax, IntKind.wrap, IntKind.bits, IntKind.signed] <;> simp <;> (try split) <;> omega

def eWrap (k : IntKind) : E → E
  | .ic n => .ic (k.wrap n)
  | e => .wrap k e
theorem ev_eWrap (ρ : Env) (k : IntKind) (e : E) : evI ρ (eWrap k e) = k.wrap (evI ρ e) := by
  unfold eWrap; split <;> simp [evI, ev, dI, xI]

/-- An integer result of kind k: as it is where its range fits, else wrapped. -/
def fit (k : IntKind) (e : E) (lo hi : Int) : SC :=
  if decide (kmin k ≤ lo) && decide (hi ≤ kmax k) then .int k e lo hi else .int k (eWrap k e) (kmin k) (kmax k)
theorem RS_fit {ρ : Env} {ls : Ls} {k : IntKind} {e : E} {lo hi n : Int} (hn : evI ρ e = n) (h1 : lo ≤ n) (h2 : n ≤ hi) : RS ρ ls (fit k e lo hi) (.int k (k.wrap n)) := by
  unfold fit
  split
  · rename_i h
    simp only [Bool.and_eq_true, decide_eq_true_eq] at h
    exact ⟨by rw [hn, wrap_fits ⟨by omega, by omega⟩], by omega, by omega⟩
  · have := wrap_range k n
    exact ⟨by rw [ev_eWrap, hn], by rw [ev_eWrap, hn]; exact this.1, by rw [ev_eWrap, hn]; exact this.2⟩

def min4 (a b c d : Int) : Int := min (min a b) (min c d)
def max4 (a b c d : Int) : Int := max (max a b) (max c d)
theorem mul_range {x y a b c d : Int} (h1 : a ≤ x) (h2 : x ≤ b) (h3 : c ≤ y) (h4 : y ≤ d) : min4 (a * c) (a * d) (b * c) (b * d) ≤ x * y ∧ x * y ≤ max4 (a * c) (a * d) (b * c) (b * d) := by
  have key : ∀ (p q u v : Int), p ≤ u → u ≤ q → min (p * v) (q * v) ≤ u * v ∧ u * v ≤ max (p * v) (q * v) := by
    intro p q u v hp hq
    rcases Int.le_total 0 v with hv | hv
    · have e1 := Int.mul_le_mul_of_nonneg_right hp hv
      have e2 := Int.mul_le_mul_of_nonneg_right hq hv
      omega
    · have e1 := Int.mul_le_mul_of_nonpos_right hp hv
      have e2 := Int.mul_le_mul_of_nonpos_right hq hv
      omega
  have k1 := key a b x y h1 h2
  have k2 := key c d y a h3 h4
  have k3 := key c d y b h3 h4
  rw [Int.mul_comm c a, Int.mul_comm d a, Int.mul_comm y a] at k2
  rw [Int.mul_comm c b, Int.mul_comm d b, Int.mul_comm y b] at k3
  unfold min4 max4
  omega

/-- The mask's number of bits, if it is one less than a power of two below 2^16. -/
def maskBits : Nat → Int → Option Nat
  | 0, _ => none
  | f + 1, m => if m = 2 ^ (16 - f) - 1 then some (16 - f) else maskBits f m
theorem maskBits_spec : ∀ (f : Nat) (m : Int) (j : Nat), maskBits f m = some j → m = 2 ^ j - 1 ∧ j ≤ 16
  | 0, _, _, h => by simp [maskBits] at h
  | f + 1, m, j, h => by
    unfold maskBits at h
    split at h
    · rename_i he; cases h; exact ⟨he, by omega⟩
    · exact maskBits_spec f m j h

theorem ofInt_toNat (x : Int) : ((BitVec.ofInt 64 x).toNat : Int) = x % 18446744073709551616 := by
  rw [BitVec.toNat_ofInt]
  have : (0 : Int) ≤ x % 18446744073709551616 := Int.emod_nonneg _ (by decide)
  simp
  omega
theorem bits_mask (x : Int) (j : Nat) (hj : j ≤ 16) : bits .and .i64 x (2 ^ j - 1) = x % 2 ^ j := by
  have hp : (2 : Nat) ^ j ≤ 2 ^ 16 := Nat.pow_le_pow_right (by decide) hj
  have hp0 : 0 < (2 : Nat) ^ j := Nat.pow_pos (by decide)
  have e1 : ((2 : Int) ^ j - 1) = ((2 ^ j - 1 : Nat) : Int) := by rw [Int.ofNat_sub hp0]; simp
  have hm : (BitVec.ofInt 64 ((2 : Int) ^ j - 1)).toNat = 2 ^ j - 1 := by
    have h := ofInt_toNat ((2 : Int) ^ j - 1)
    rw [e1] at h ⊢
    omega
  have ha : (BitVec.ofInt 64 x &&& BitVec.ofInt 64 ((2 : Int) ^ j - 1)).toNat = (BitVec.ofInt 64 x).toNat % 2 ^ j := by
    rw [BitVec.toNat_and, hm, Nat.and_two_pow_sub_one_eq_mod]
  have hr : ((BitVec.ofInt 64 x).toNat % 2 ^ j : Nat) < 2 ^ j := Nat.mod_lt _ hp0
  show IntKind.i64.wrap ((BitVec.ofInt 64 x &&& BitVec.ofInt 64 ((2 : Int) ^ j - 1)).toNat : Int) = _
  rw [ha, wrap_fits (by simp only [kmin, kmax]; omega), Int.natCast_emod, ofInt_toNat]
  have hd : (2 : Int) ^ j ∣ 18446744073709551616 := ⟨2 ^ (64 - j), by rw [← Int.pow_add]; rw [show j + (64 - j) = 64 by omega]; rfl⟩
  have : ((2 ^ j : Nat) : Int) = (2 : Int) ^ j := by simp
  rw [this, Int.emod_emod_of_dvd _ hd]

def binInt (op : BinOp) (k : IntKind) (a : E) (l1 h1 : Int) (b : E) (l2 h2 : Int) : Option SC :=
  match op with
  | .add => some (fit k (eAdd a b) (l1 + l2) (h1 + h2))
  | .sub => some (fit k (eSub a b) (l1 - h2) (h1 - l2))
  | .mul => some (fit k (eMul a b) (min4 (l1 * l2) (l1 * h2) (h1 * l2) (h1 * h2)) (max4 (l1 * l2) (l1 * h2) (h1 * l2) (h1 * h2)))
  | .quo =>
    if 1 ≤ l2 ∧ 0 ≤ l1 then (match a, b with
      | .ic n, .ic m => some (fit k (.ic (n / m)) (n / m) (n / m))
      | _, _ => some (fit k (.div a b) 0 (h1 / l2)))
    else if 1 ≤ l2 then some (fit k (.tdiv a b) (min l1 0) (max h1 0)) else none
  | .rem =>
    if 1 ≤ l2 ∧ 0 ≤ l1 then (match a, b with
      | .ic n, .ic m => some (.int k (.ic (n % m)) (n % m) (n % m))
      | _, _ => some (.int k (.mod a b) 0 (min h1 (h2 - 1))))
    else if 1 ≤ l2 then some (.int k (.tmod a b) (max (min l1 0) (1 - h2)) (min (max h1 0) (h2 - 1))) else none
  | .and => (match k, b with
    | .i64, .ic m => (match maskBits 16 m with
      | some _ => (match a with
        | .ic n => some (.int .i64 (.ic (n % (m + 1))) (n % (m + 1)) (n % (m + 1)))
        | _ => some (.int .i64 (.mod a (.ic (m + 1))) 0 m))
      | none => some (fit k (.bit .and k a b) (kmin k) (kmax k)))
    | _, _ => some (fit k (.bit .and k a b) (kmin k) (kmax k)))
  | .or => (match a, b with
    | .ic n, .ic m => some (fit k (.ic (bits .or k n m)) (bits .or k n m) (bits .or k n m))
    | _, _ => some (fit k (.bit .or k a b) (kmin k) (kmax k)))
  | .xor => (match a, b with
    | .ic n, .ic m => some (fit k (.ic (bits .xor k n m)) (bits .xor k n m) (bits .xor k n m))
    | _, _ => some (fit k (.bit .xor k a b) (kmin k) (kmax k)))
  | .lss => some (.bool (if h1 < l2 then .bc true else if h2 ≤ l1 then .bc false else .lt a b))
  | .leq => some (.bool (if h1 ≤ l2 then .bc true else if h2 < l1 then .bc false else .le a b))
  | .gtr => some (.bool (if h2 < l1 then .bc true else if h1 ≤ l2 then .bc false else .lt b a))
  | .geq => some (.bool (if h2 ≤ l1 then .bc true else if h1 < l2 then .bc false else .le b a))
  | .eql => some (.bool (if l1 = h1 ∧ l2 = h2 ∧ l1 = l2 then .bc true else if h1 < l2 then .bc false else if h2 < l1 then .bc false else if eqE a b then .bc true else .eq a b))
  | .neq => some (.bool (if l1 = h1 ∧ l2 = h2 ∧ l1 = l2 then .bc false else if h1 < l2 then .bc true else if h2 < l1 then .bc true else if eqE a b then .bc false else .not (.eq a b)))
  | _ => none

theorem bits_range (op : BinOp) (k : IntKind) (x y : Int) : kmin k ≤ bits op k x y ∧ bits op k x y ≤ kmax k := wrap_range k _
theorem wrap_bits (op : BinOp) (k : IntKind) (x y : Int) : k.wrap (bits op k x y) = bits op k x y := wrap_fits (bits_range op k x y)

theorem emod_le_self' {x y : Int} (hx : 0 ≤ x) (hy : 1 ≤ y) : x % y ≤ x := by
  obtain ⟨a, rfl⟩ := Int.eq_ofNat_of_zero_le hx
  obtain ⟨b, rfl⟩ := Int.eq_ofNat_of_zero_le (show 0 ≤ y by omega)
  rw [← Int.natCast_emod]
  exact Int.ofNat_le.2 (Nat.mod_le a b)
theorem ediv_le_of_le {x y z : Int} (hx : 0 ≤ x) (hz : 1 ≤ z) (hy : z ≤ y) : x / y ≤ x / z := by
  obtain ⟨a, rfl⟩ := Int.eq_ofNat_of_zero_le hx
  obtain ⟨b, rfl⟩ := Int.eq_ofNat_of_zero_le (show 0 ≤ y by omega)
  obtain ⟨c, rfl⟩ := Int.eq_ofNat_of_zero_le (show 0 ≤ z by omega)
  rw [← Int.natCast_ediv, ← Int.natCast_ediv]
  exact Int.ofNat_le.2 (Nat.div_le_div_left (by omega) (by omega))
theorem tdiv_range {x y l1 h1 : Int} (hy : 1 ≤ y) (h1' : l1 ≤ x) (h2' : x ≤ h1) : min l1 0 ≤ x.tdiv y ∧ x.tdiv y ≤ max h1 0 := by
  rcases Int.le_total 0 x with hx | hx
  · rw [Int.tdiv_eq_ediv_of_nonneg hx]
    have a1 : 0 ≤ x / y := Int.ediv_nonneg hx (by omega)
    have a2 : x / y ≤ x := Int.ediv_le_self _ hx
    omega
  · have e : x.tdiv y = -((-x).tdiv y) := by rw [Int.neg_tdiv]; omega
    have hn : 0 ≤ -x := by omega
    rw [e, Int.tdiv_eq_ediv_of_nonneg hn]
    have a1 : 0 ≤ (-x) / y := Int.ediv_nonneg hn (by omega)
    have a2 : (-x) / y ≤ -x := Int.ediv_le_self _ hn
    omega
theorem tmod_range {x y l1 h1 h2 : Int} (hy : 1 ≤ y) (hy2 : y ≤ h2) (h1' : l1 ≤ x) (h2' : x ≤ h1) : max (min l1 0) (1 - h2) ≤ x.tmod y ∧ x.tmod y ≤ min (max h1 0) (h2 - 1) := by
  rcases Int.le_total 0 x with hx | hx
  · rw [Int.tmod_eq_emod_of_nonneg hx]
    have a1 : 0 ≤ x % y := Int.emod_nonneg _ (by omega)
    have a2 : x % y < y := Int.emod_lt_of_pos _ (by omega)
    have a3 : x % y ≤ x := emod_le_self' hx hy
    omega
  · have hn : 0 ≤ -x := by omega
    have e : x.tmod y = -((-x).tmod y) := by rw [Int.neg_tmod]; omega
    rw [e, Int.tmod_eq_emod_of_nonneg hn]
    have a1 : 0 ≤ (-x) % y := Int.emod_nonneg _ (by omega)
    have a2 : (-x) % y < y := Int.emod_lt_of_pos _ (by omega)
    have a3 : (-x) % y ≤ -x := emod_le_self' hn hy
    omega

theorem binInt_ok {P : Program} {w : World} {ρ : Env} {ls : Ls} {op : BinOp} {k : IntKind} {a b : E} {l1 h1 l2 h2 : Int} {s : SC} {t : TypeId}
    (h : binInt op k a l1 h1 b l2 h2 = some s) (a1 : l1 ≤ evI ρ a) (a2 : evI ρ a ≤ h1) (b1 : l2 ≤ evI ρ b) (b2 : evI ρ b ≤ h2) :
    ∃ v, (binOp op t (.int k (evI ρ a)) (.int k (evI ρ b))).run P w = .ok v w ∧ RS ρ ls s v := by
  generalize hx : evI ρ a = x at *
  generalize hy : evI ρ b = y at *
  cases op <;> simp only [binInt] at h
  case add =>
    cases h
    exact ⟨_, by rw [binOp_add]; rfl, RS_fit (n := x + y) (by rw [← hx, ← hy]; exact ev_eAdd ρ a b) (by omega) (by omega)⟩
  case sub =>
    cases h
    exact ⟨_, by rw [binOp_sub]; rfl, RS_fit (n := x - y) (by rw [← hx, ← hy]; exact ev_eSub ρ a b) (by omega) (by omega)⟩
  case mul =>
    cases h
    have := mul_range a1 a2 b1 b2
    exact ⟨_, by rw [binOp_mul]; rfl, RS_fit (n := x * y) (by rw [← hx, ← hy]; exact ev_eMul ρ a b) this.1 this.2⟩
  case quo =>
    have hrun : y ≠ 0 → (binOp .quo t (.int k x) (.int k y)).run P w = .ok (.int k (k.wrap (x.tdiv y))) w := fun h0 => by
      rw [binOp_quo]; simp [Op.intDiv, h0]
    split at h
    · rename_i hc
      obtain ⟨hc1, hc2⟩ := hc
      have e : x.tdiv y = x / y := Int.tdiv_eq_ediv_of_nonneg (by omega)
      have q0 : 0 ≤ x / y := Int.ediv_nonneg (by omega) (by omega)
      have q1 : x / y ≤ h1 / l2 := by
        have i1 : x / y ≤ x / l2 := ediv_le_of_le (by omega) (by omega) (by omega)
        have i2 : x / l2 ≤ h1 / l2 := Int.ediv_le_ediv (by omega) a2
        omega
      refine ⟨_, hrun (by omega), ?_⟩
      rw [e]
      split at h
      · rename_i n m
        cases h
        have : x / y = n / m := by rw [← hx, ← hy]; rfl
        refine RS_fit (n := x / y) ?_ ?_ ?_
        · rw [this]; rfl
        · rw [this]; exact Int.le_refl _
        · rw [this]; exact Int.le_refl _
      · cases h
        exact RS_fit (n := x / y) (by rw [← hx, ← hy]; rfl) q0 q1
    · split at h
      · rename_i hc
        cases h
        have := tdiv_range (y := y) (by omega) a1 a2
        exact ⟨_, hrun (by omega), RS_fit (n := x.tdiv y) (by rw [← hx, ← hy]; rfl) this.1 this.2⟩
      · cases h
  case rem =>
    have hrun : y ≠ 0 → (binOp .rem t (.int k x) (.int k y)).run P w = .ok (.int k (x.tmod y)) w := fun h0 => by
      rw [binOp_rem]; simp [Op.intDiv, h0]
    split at h
    · rename_i hc
      obtain ⟨hc1, hc2⟩ := hc
      have e : x.tmod y = x % y := Int.tmod_eq_emod_of_nonneg (by omega)
      have q0 : 0 ≤ x % y := Int.emod_nonneg _ (by omega)
      have q1 : x % y < y := Int.emod_lt_of_pos _ (by omega)
      have q2 : x % y ≤ x := emod_le_self' (by omega) (by omega)
      refine ⟨_, hrun (by omega), ?_⟩
      rw [e]
      split at h
      · rename_i n m
        cases h
        have : x % y = n % m := by rw [← hx, ← hy]; rfl
        exact ⟨by rw [this]; rfl, Int.le_refl _, Int.le_refl _⟩
      · cases h
        have : evI ρ (.mod a b) = x % y := by rw [← hx, ← hy]; rfl
        exact ⟨by rw [this], by rw [this]; omega, by rw [this]; omega⟩
    · split at h
      · rename_i hc
        cases h
        have := tmod_range (y := y) (by omega) b2 a1 a2
        have e : evI ρ (.tmod a b) = x.tmod y := by rw [← hx, ← hy]; rfl
        exact ⟨_, hrun (by omega), by rw [e], by rw [e]; exact this.1, by rw [e]; exact this.2⟩
      · cases h
  case and =>
    have hrun : (binOp .and t (.int k x) (.int k y)).run P w = .ok (.int k (bits .and k x y)) w := by rw [binOp_and]; rfl
    have gen : RS ρ ls (fit k (.bit .and k a b) (kmin k) (kmax k)) (.int k (bits .and k x y)) := by
      have := RS_fit (ρ := ρ) (ls := ls) (k := k) (e := .bit .and k a b) (n := bits .and k x y) (by rw [← hx, ← hy]; rfl) (bits_range .and k x y).1 (bits_range .and k x y).2
      rwa [wrap_bits] at this
    refine ⟨_, hrun, ?_⟩
    split at h
    · rename_i m
      have hm : y = m := by rw [← hy]; rfl
      split at h
      · rename_i j hj
        obtain ⟨e1, e2⟩ := maskBits_spec _ _ _ hj
        have hb := bits_mask x j e2
        have hpos : (0 : Int) < 2 ^ j := Int.pow_pos (by decide)
        have e3 : m + 1 = 2 ^ j := by omega
        have q0 : 0 ≤ x % 2 ^ j := Int.emod_nonneg _ (by omega)
        have q1 : x % 2 ^ j < 2 ^ j := Int.emod_lt_of_pos _ hpos
        rw [hm, e1, hb]
        split at h
        · rename_i n
          cases h
          have hxn : x = n := by rw [← hx]; rfl
          subst hxn
          exact ⟨by rw [e3]; rfl, by rw [e3]; exact Int.le_refl _, by rw [e3]; exact Int.le_refl _⟩
        · cases h
          have : evI ρ (.mod a (.ic (m + 1))) = x % 2 ^ j := by rw [← hx, e3]; rfl
          exact ⟨by rw [this], by rw [this]; omega, by rw [this]; omega⟩
      · cases h; exact gen
    · cases h; exact gen
  case or =>
    have hrun : (binOp .or t (.int k x) (.int k y)).run P w = .ok (.int k (bits .or k x y)) w := by rw [binOp_or]; rfl
    refine ⟨_, hrun, ?_⟩
    split at h
    · rename_i n m
      cases h
      have hx' : x = n := by rw [← hx]; rfl
      have hy' : y = m := by rw [← hy]; rfl
      rw [hx', hy']
      have := RS_fit (ρ := ρ) (ls := ls) (k := k) (e := .ic (bits .or k n m)) (n := bits .or k n m) rfl (Int.le_refl _) (Int.le_refl _)
      rwa [wrap_bits] at this
    · cases h
      have := RS_fit (ρ := ρ) (ls := ls) (k := k) (e := .bit .or k a b) (n := bits .or k x y) (by rw [← hx, ← hy]; rfl) (bits_range .or k x y).1 (bits_range .or k x y).2
      rwa [wrap_bits] at this
  case xor =>
    have hrun : (binOp .xor t (.int k x) (.int k y)).run P w = .ok (.int k (bits .xor k x y)) w := by rw [binOp_xor]; rfl
    refine ⟨_, hrun, ?_⟩
    split at h
    · rename_i n m
      cases h
      have hx' : x = n := by rw [← hx]; rfl
      have hy' : y = m := by rw [← hy]; rfl
      rw [hx', hy']
      have := RS_fit (ρ := ρ) (ls := ls) (k := k) (e := .ic (bits .xor k n m)) (n := bits .xor k n m) rfl (Int.le_refl _) (Int.le_refl _)
      rwa [wrap_bits] at this
    · cases h
      have := RS_fit (ρ := ρ) (ls := ls) (k := k) (e := .bit .xor k a b) (n := bits .xor k x y) (by rw [← hx, ← hy]; rfl) (bits_range .xor k x y).1 (bits_range .xor k x y).2
      rwa [wrap_bits] at this
  case lss =>
    cases h
    refine ⟨_, by rw [binOp_lss]; rfl, ?_⟩
    simp only [RS]
    split
    · rename_i hc; simp [evB, ev, dB, xB]; omega
    · split
      · rename_i hc; simp [evB, ev, dB, xB]; omega
      · simp only [evB, ev, dB, xB]; rw [← hx, ← hy]
  case leq =>
    cases h
    refine ⟨_, by rw [binOp_leq]; rfl, ?_⟩
    simp only [RS]
    split
    · rename_i hc; simp [evB, ev, dB, xB]; omega
    · split
      · rename_i hc; simp [evB, ev, dB, xB]; omega
      · simp only [evB, ev, dB, xB]; rw [← hx, ← hy]
  case gtr =>
    cases h
    refine ⟨_, by rw [binOp_gtr]; rfl, ?_⟩
    simp only [RS]
    split
    · rename_i hc; simp [evB, ev, dB, xB]; omega
    · split
      · rename_i hc; simp [evB, ev, dB, xB]; omega
      · simp only [evB, ev, dB, xB]; rw [← hx, ← hy]
  case geq =>
    cases h
    refine ⟨_, by rw [binOp_geq]; rfl, ?_⟩
    simp only [RS]
    split
    · rename_i hc; simp [evB, ev, dB, xB]; omega
    · split
      · rename_i hc; simp [evB, ev, dB, xB]; omega
      · simp only [evB, ev, dB, xB]; rw [← hx, ← hy]
  case eql =>
    cases h
    refine ⟨_, by rw [binOp_eql]; rfl, ?_⟩
    simp only [RS]
    split
    · rename_i hc; simp [evB, ev, dB, xB]; omega
    · split
      · rename_i hc; simp [evB, ev, dB, xB]; omega
      · split
        · rename_i hc; simp [evB, ev, dB, xB]; omega
        · split
          · rename_i he
            have : x = y := by rw [← hx, ← hy, eqE_eq he]
            simp [evB, ev, dB, xB, this]
          · simp only [evB, ev, dB, xB]; rw [← hx, ← hy]; rfl
  case neq =>
    cases h
    refine ⟨_, by rw [binOp_neq]; rfl, ?_⟩
    simp only [RS]
    split
    · rename_i hc; simp [evB, ev, dB, xB]; omega
    · split
      · rename_i hc; simp [evB, ev, dB, xB]; omega
      · split
        · rename_i hc; simp [evB, ev, dB, xB]; omega
        · split
          · rename_i he
            have : x = y := by rw [← hx, ← hy, eqE_eq he]
            simp [evB, ev, dB, xB, this]
          · simp only [evB, ev, dB, xB]; rw [← hx, ← hy]; rfl
  all_goals cases h

end Vc
end Go.Proofs.YtfpecoddgdcaaaaDoor
