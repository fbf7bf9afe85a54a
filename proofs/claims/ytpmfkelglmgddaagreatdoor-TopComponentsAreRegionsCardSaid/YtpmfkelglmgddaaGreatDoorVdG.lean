/- Regions that draw their order, where an operation may yield any value of a set of its own. -/
import Derived.Test.YtpmfkelglmgddaaGreatDoorVdF
import Derived.Deep.Quiet
import Derived.StillTail
import Derived.Laws.BytesString
namespace Go.Proofs.YtpmfkelglmgddaaGreatDoor
namespace Vc
open Go
set_option linter.unusedVariables false
section
variable {P : Program} {ops : Array Oper} {md : Region.Mode} {C : World → Prop} {U : Nat → Value → Prop}
def bH (P : Program) (C : World → Prop) (w : World) (U : Value → Prop) : Result Next → Prop
 | .ok (.value u) w' => w' = w ∧ U u
 | .ok .skip w' => w' = w ∧ U undef
 | .ok (.enter f args) w' => w' = w ∧ Calls P f args w (fun e w'' => ∃ v, e = .returned v ∧ U v ∧ C w'')
 | _ => False
theorem bH.mono {w : World} {U V : Value → Prop} (h : ∀ u, U u → V u) {r : Result Next} (hr : bH P C w U r) : bH P C w V r := by
 cases r with
 | ok n w' =>
  cases n <;> simp only [bH] at hr ⊢
  case value u => exact ⟨hr.1, h _ hr.2⟩
  case skip => exact ⟨hr.1, h _ hr.2⟩
  case enter f args => exact ⟨hr.1, hr.2.mono fun e w'' ⟨v, h1, h2, h3⟩ => ⟨v, h1, h _ h2, h3⟩⟩
 | halt x w' => exact hr
theorem bH.some {w : World} {U : Value → Prop} {r : Result Next} (hr : bH P C w U r) : ∃ u, U u := by
 cases r with
 | ok n w' =>
  cases n <;> simp only [bH] at hr
  case value u => exact ⟨_, hr.2⟩
  case skip => exact ⟨_, hr.2⟩
  case enter f args =>
   obtain ⟨e, w', fr, ⟨v, _, h2, _⟩, _⟩ := hr.2 []
   exact ⟨v, h2⟩
 | halt x w' => exact hr.elim
end
end Vc
end Go.Proofs.YtpmfkelglmgddaaGreatDoor
namespace Go.Proofs.YtpmfkelglmgddaaGreatDoor
namespace Vc
open Go Go.RowKit
set_option linter.unusedVariables false
def QG (mx : Bool) (k : IntKind) (a : E) (l1 h1 : Int) (b : E) (l2 h2 : Int) : SC :=
 if mx then (if h2 ≤ l1 then .int k a l1 h1 else if h1 ≤ l2 then .int k b l2 h2 else .int k (.mx a b) (max l1 l2) (max h1 h2))
 else (if h1 ≤ l2 then .int k a l1 h1 else if h2 ≤ l1 then .int k b l2 h2 else .int k (.mn a b) (min l1 l2) (min h1 h2))
def Jt (mx : Bool) : SC → List SV → Option SV
 | acc, [] => some (.c acc)
 | .int k a l1 h1, .c (.int k' b l2 h2) :: r => if k = k' then Jt mx (QG mx k a l1 h1 b l2 h2) r else none
 | _, _ => none
section
variable {P : Program} {ρ : Env} {B : Nat} {w0 w : World} {ls : Ls} {hp : SH} {tm : aw} {a : Act} {G : E} {cf : a8}
theorem LL {mx : Bool} {k : IntKind} {x y : E} {l1 h1 l2 h2 : Int} (a1 : l1 ≤ aa ρ x) (a2 : aa ρ x ≤ h1) (b1 : l2 ≤ aa ρ y) (b2 : aa ρ y ≤ h2) :
 RS ρ ls (QG mx k x l1 h1 y l2 h2) (.int k (if mx then max (aa ρ x) (aa ρ y) else min (aa ρ x) (aa ρ y))) := by
 unfold QG
 cases mx
 ·simp only [Bool.false_eq_true, if_false]
  split
  ·exact ⟨by congr 1; omega, a1, a2⟩
  ·split
   ·exact ⟨by congr 1; omega, b1, b2⟩
   ·have e : aa ρ (.mn x y) = min (aa ρ x) (aa ρ y) := rfl
    exact ⟨by rw [e], by rw [e]; omega, by rw [e]; omega⟩
 ·simp only [if_true]
  split
  ·exact ⟨by congr 1; omega, a1, a2⟩
  ·split
   ·exact ⟨by congr 1; omega, b1, b2⟩
   ·have e : aa ρ (.mx x y) = max (aa ρ x) (aa ρ y) := rfl
    exact ⟨by rw [e], by rw [e]; omega, by rw [e]; omega⟩
theorem za {mx : Bool} : ∀ {r : List SV} {us : List Value} {acc : SC} {u : Value} {s : SV}, Jt mx acc r = some s → RS ρ ls acc u → ai (RV ρ ls) r us →
 ∃ z, (us.foldlM (if mx then Builtin.max2 else Builtin.min2) u : Sem Value).run P w = .ok z w ∧ RV ρ ls s z
 | [], [], acc, u, s, h, ha, _ => by
  cases acc <;> cases h <;> exact ⟨u, rfl, ha⟩
 | x :: r, v :: us, acc, u, s, h, ha, hr => by
  cases acc with
  | int k e l1 h1 =>
   cases x with
   | c y =>
    cases y with
    | int k' b l2 h2 =>
     simp only [Jt] at h
     split at h
     ·rename_i hk
      subst hk
      obtain ⟨rfl, a1, a2⟩ := ha
      obtain ⟨⟨rfl, b1, b2⟩, hr'⟩ := hr
      have hm := LL (ls := ls) (mx := mx) (k := k) a1 a2 b1 b2
      obtain ⟨z, hz, hz'⟩ := za h hm hr'
      refine ⟨z, ?_, hz'⟩
      rw [List.foldlM_cons, Sem.run_bind]
      have : ((if mx then Builtin.max2 else Builtin.min2) (.int k (aa ρ e)) (.int k (aa ρ b)) : Sem Value).run P w = .ok (.int k (if mx then max (aa ρ e) (aa ρ b) else min (aa ρ e) (aa ρ b))) w := by
       cases mx
       ·simp only [Bool.false_eq_true, if_false, Builtin.min2, Sem.run_pure]
        congr 2; split <;> omega
       ·simp only [if_true, Builtin.max2, Sem.run_pure]
        congr 2; split <;> omega
      rw [this]
      exact hz
     ·cases h
    | _ => simp [Jt] at h
   | _ => simp [Jt] at h
  | _ => simp [Jt] at h
 | [], _ :: _, _, _, _, _, _, h => h.elim
 | _ :: _, [], _, _, _, _, _, h => h.elim
def kS (tm : aw) (G : E) : List Operand → Option (List SV)
 | [] => some []
 | x :: r => match cA tm G x, kS tm G r with | some v, some vs => some (v :: vs) | _, _ => none
theorem b8 (hr : aX ρ ls tm a) (hG : al ρ G = true) : ∀ {xs : List Operand} {vs : List SV}, kS tm G xs = some vs → ai (RV ρ ls) vs (xs.map a.eval)
 | [], _, h => by cases h; trivial
 | x :: xs, vs, h => by
  simp only [kS] at h
  split at h
  ·rename_i v vs' hx hxs
   cases h
   exact ⟨aj hx hr hG, b8 hr hG hxs⟩
  ·cases h
def NF (P : Program) (t : TypeId) : Option Nat := match P.underlying t with | some (.array n _) => some n | _ => none
def qi (P : Program) (t : TypeId) : Bool := match P.underlying t with | some (.slice _) => true | _ => false
theorem lX {t : TypeId} (h : qi P t = true) : ∃ e, P.underlying t = some (.slice e) := by
 unfold qi at h; split at h
 ·rename_i e he; exact ⟨e, he⟩
 ·cases h
def nw (P : Program) (t : TypeId) : Bool := match P.underlying t with | some .string => true | _ => false
theorem j6 {t : TypeId} (h : nw P t = true) : P.underlying t = some .string := by
 unfold nw at h; split at h
 ·assumption
 ·cases h
def AY (n : E) (hi : Int) : SC := match n with
 | .ic m => .int .i64 (.ic m) m m
 | n => .int .i64 n 0 hi
theorem wU {n : E} {hi : Int} (h0 : 0 ≤ aa ρ n) (h1 : aa ρ n ≤ hi) : RS ρ ls (AY n hi) (.int .i64 (aa ρ n)) := by
 unfold AY
 split
 ·exact ⟨rfl, Int.le_refl _, Int.le_refl _⟩
 ·exact ⟨rfl, h0, h1⟩
def LM (hp : SH) : SV → Option SC
 | .c (.ow l) => (match hp[l]? with
  | some ⟨_, _, .row _ _ n hi⟩ => some (AY n hi)
  | some ⟨_, _, .grow sz cs⟩ => some (.int .i64 (.ic (cs.length / sz : Nat)) (cs.length / sz : Nat) (cs.length / sz : Nat))
  | _ => none)
 | .c (.sl _ _ _ n hi) => some (AY n hi)
 | .c (.sc _ _ n _) => some (.int .i64 (.ic n) n n)
 | .c (.di (.slice none 0 0)) => some (.int .i64 (.ic 0) 0 0)
 | .c (.ln n hi) => some (.int .i64 n 0 hi)
 | _ => none
theorem Ic {x : SV} {s : SC} {u : Value} (h : LM hp x = some s) (hh : aB ρ B w0 ls hp w) (hx : RV ρ ls x u) : ∃ A n c, u = .slice A n c ∧ RS ρ ls s (.int .i64 n) := by
 unfold LM at h
 split at h
 ·rename_i l
  obtain ⟨h1, A, n, c, rfl⟩ := hx
  split at h
  ·rename_i b ty sh R m hi hl
   cases h
   obtain ⟨A', c', g1, g2, g3, g4⟩ := pk rfl (hh.bA l _ hl)
   rw [h1] at g1; cases g1
   have e : (((aa ρ m).toNat : Nat) : Int) = aa ρ m := by omega
   exact ⟨_, _, _, rfl, by rw [e]; exact wU g2 g3⟩
  ·rename_i b ty sz cs hl
   cases h
   obtain ⟨_, h0, A', n', c', vs, e1, e2, e3, _⟩ := hh.bA l _ hl
   rw [h1] at e1; cases e1
   have hn : cs.length / sz = n := by rw [e3.len, e2, Nat.mul_div_cancel _ h0]
   rw [hn]
   exact ⟨_, _, _, rfl, rfl, Int.le_refl _, Int.le_refl _⟩
  ·cases h
 ·rename_i l sz lo n hi
  cases h
  obtain ⟨A, N, C, A', c, g1, rfl, g2, g3, g4, _⟩ := hx
  have e : (((aa ρ n).toNat : Nat) : Int) = aa ρ n := by omega
  exact ⟨_, _, _, rfl, by rw [e]; exact wU g3 g4⟩
 ·rename_i l o n c
  cases h
  obtain ⟨_, a, _, rfl⟩ := hx
  exact ⟨_, _, _, rfl, rfl, Int.le_refl _, Int.le_refl _⟩
 ·cases h
  have hx' : u = _ := hx
  subst hx'
  exact ⟨none, 0, 0, rfl, rfl, Int.le_refl _, Int.le_refl _⟩
 ·rename_i n hi
  cases h
  obtain ⟨A, c, rfl, g2, g3⟩ := hx
  have e : (((aa ρ n).toNat : Nat) : Int) = aa ρ n := by omega
  exact ⟨_, _, _, rfl, by show Value.int _ _ = .int _ _; rw [e], g2, g3⟩
 ·cases h
def qH (P : Program) (hp : SH) (b : Builtin) (ts : List TypeId) (vs : List SV) : Option SV :=
 match b, ts, vs with
 | .len, [t], [x] => (match NF P t with
  | some n => some (.c (.int .i64 (.ic n) n n))
  | none => if qi P t then (LM hp x).map .c else (match x with
   | .c (.di (.string s)) => if nw P t then some (.c (.int .i64 (.ic s.size) s.size s.size)) else none
   | .c (.str e hi) => if nw P t then some (.c (.int .i64 e 0 hi)) else none
   | _ => none))
 | .max, _, .c x :: r => Jt true x r
 | .min, _, .c x :: r => Jt false x r
 | _, _, _ => none
theorem wV {b : Builtin} {ts : List TypeId} {vs : List SV} {us : List Value} {s : SV} {ty : TypeId} {cs : Array Bool} (h : qH P hp b ts vs = some s) (hh : aB ρ B w0 ls hp w) (hr : ai (RV ρ ls) vs us) :
 ∃ z, (builtin b ts.toArray ty cs us.toArray).run P w = .ok (.value z) w ∧ RV ρ ls s z := by
 unfold qH at h
 split at h
 ·rename_i t x
  cases us with
  | nil => exact hr.elim
  | cons u us => cases us with
   | cons _ _ => exact hr.2.elim
   | nil =>
    split at h
    ·rename_i n hn
     cases h
     unfold NF at hn
     split at hn
     ·rename_i _ el ht
      cases hn
      refine ⟨.int .i64 n, ?_, rfl, Int.le_refl _, Int.le_refl _⟩
      simp [builtin, Builtin.len_, run_underlying ht, goInt]
     ·cases hn
    ·split at h
     ·rename_i hsl
      obtain ⟨e, ht⟩ := lX hsl
      rw [Option.map_eq_some_iff] at h
      obtain ⟨s', hs, rfl⟩ := h
      obtain ⟨A, n, c, rfl, hr'⟩ := Ic hs hh hr.1
      exact ⟨.int .i64 n, by simp [builtin, Builtin.len_, run_underlying ht, goInt], hr'⟩
     ·split at h
      ·rename_i str
       split at h
       ·rename_i hst
        have ht := j6 hst
        cases h
        have hu : u = _ := hr.1
        subst hu
        exact ⟨.int .i64 str.size, by simp [builtin, Builtin.len_, run_underlying ht, goInt], rfl, Int.le_refl _, Int.le_refl _⟩
       ·cases h
      ·rename_i e hi
       split at h
       ·rename_i hst
        have ht := j6 hst
        cases h
        obtain ⟨str, rfl, _, g1, g2⟩ := hr.1
        exact ⟨.int .i64 str.size, by simp [builtin, Builtin.len_, run_underlying ht, goInt], by rw [g1], by rw [g1]; omega, by rw [g1]; exact g2⟩
       ·cases h
      ·cases h
 ·rename_i x r
  cases us with
  | nil => exact hr.elim
  | cons u us =>
   obtain ⟨z, hz, hz'⟩ := za (P := P) (w := w) h hr.1 hr.2
   simp only [if_true] at hz
   exact ⟨z, by simp [builtin, Builtin.max_, hz], hz'⟩
 ·rename_i x r
  cases us with
  | nil => exact hr.elim
  | cons u us =>
   obtain ⟨z, hz, hz'⟩ := za (P := P) (w := w) h hr.1 hr.2
   simp only [Bool.false_eq_true, if_false] at hz
   exact ⟨z, by simp [builtin, Builtin.min_, hz], hz'⟩
 ·cases h
def Ie (tm : aw) (G : E) : Option Operand → Option (Option Int)
 | none => some none
 | some o => match cA tm G o with
  | some (.c (.int _ (.ic n) _ _)) => some (some n)
  | _ => none
theorem AZ (hr : aX ρ ls tm a) (hG : al ρ G = true) {x : Option Operand} {r : Option Int} (h : Ie tm G x = some r) : (x.map a.eval = none ∧ r = none) ∨ ∃ k n, x.map a.eval = some (.int k n) ∧ r = some n := by
 cases x with
 | none => cases h; exact .inl ⟨rfl, rfl⟩
 | some o =>
  simp only [Ie] at h
  split at h
  ·rename_i k n lo hi ho
   cases h
   have := aj ho hr hG
   obtain ⟨e, _, _⟩ := this
   exact .inr ⟨k, n, by simp [e]; rfl, rfl⟩
  ·cases h
def zb (P : Program) (t : TypeId) (x : SV) (lo hi : Option Int) : Option SV :=
 match x with
 | .c (.di (.string s)) => if nw P t && decide (0 ≤ lo.getD 0) && decide (lo.getD 0 ≤ hi.getD s.size) && decide (hi.getD s.size ≤ s.size) then some (.c (.di (.string (s.extract (lo.getD 0).toNat (hi.getD s.size).toNat)))) else none
 | _ => none
theorem Cm {t : TypeId} {x s : SV} {u : Value} {lo hi : Option Int} {lv hv : Option Value} (h : zb P t x lo hi = some s) (hx : RV ρ ls x u)
 (hl : (lv = none ∧ lo = none) ∨ ∃ k n, lv = some (.int k n) ∧ lo = some n) (hh : (hv = none ∧ hi = none) ∨ ∃ k n, hv = some (.int k n) ∧ hi = some n) : ∃ z, (Instr.sliceAt t u lv hv none).run P w = .ok z w ∧ RV ρ ls s z := by
 unfold zb at h
 split at h
 ·rename_i str
  split at h
  ·rename_i hif
   simp only [Bool.and_eq_true, decide_eq_true_eq] at hif
   obtain ⟨⟨⟨ht, h1⟩, h2⟩, h3⟩ := hif
   cases h
   have hu : u = _ := hx
   subst hu
   have ht' := j6 ht
   refine ⟨.string (str.extract (lo.getD 0).toNat (hi.getD str.size).toNat), ?_, rfl⟩
   have hb : ∀ (k : IntKind) (n : Int) (y : Nat) (c : BoundsCode), 0 ≤ n → n ≤ y → (Instr.sliceBound (.int k n) y c).run P w = .ok n.toNat w := fun k n y c a1 a2 => by
    simp [Instr.sliceBound, asIntOf, a1, a2]
   rcases hl with ⟨rfl, rfl⟩ | ⟨k, n, rfl, rfl⟩ <;> rcases hh with ⟨rfl, rfl⟩ | ⟨k', n', rfl, rfl⟩ <;> simp only [Option.getD_none, Option.getD_some] at h1 h2 h3 ⊢
   ·simp [Instr.sliceAt, Instr.slice, run_underlying ht', Instr.sliceBounds]
   ·simp [Instr.sliceAt, Instr.slice, run_underlying ht', Instr.sliceBounds, hb k' n' str.size _ (by omega) (by omega)]
   ·simp [Instr.sliceAt, Instr.slice, run_underlying ht', Instr.sliceBounds, hb k n str.size _ (by omega) (by omega)]
   ·have e1 := hb k' n' str.size .sliceAlen (by omega) (by omega)
    have e2 := hb k n n'.toNat .sliceB (by omega) (by omega)
    simp [Instr.sliceAt, Instr.slice, run_underlying ht', Instr.sliceBounds, e1, e2]
  ·cases h
 ·cases h
def A3 : List SC → Option (List Int)
 | [] => some []
 | .int .u8 (.ic n) _ _ :: r => (match A3 r with | some l => some (n :: l) | none => none)
 | _ => none
theorem wW : ∀ {cs : List SC} {ns : List Int} {vs : List Value}, A3 cs = some ns → ai (RS ρ ls) cs vs → vs = ns.map (Value.int .u8)
 | [], _, [], h, _ => by cases h; rfl
 | [], _, _ :: _, _, hr => hr.elim
 | c :: cs, ns, [], _, hr => hr.elim
 | c :: cs, ns, v :: vs, h, hr => by
  unfold A3 at h
  split at h
  ·rename_i h1; cases h1
  ·rename_i n lo hi r h1
   cases h1
   split at h
   ·rename_i l hl
    cases h
    obtain ⟨⟨rfl, _, _⟩, hr'⟩ := hr
    rw [wW hl hr']; rfl
   ·cases h
  ·cases h
def qJ (P : Program) (t : TypeId) : Bool := match P.underlying t with
 | some (.slice e) => (match P.underlying e with | some (.int .u8) => true | _ => false)
 | _ => false
theorem wX {t : TypeId} (h : qJ P t = true) : ∃ e, P.underlying t = some (.slice e) ∧ P.underlying e = some (.int .u8) := by
 unfold qJ at h
 split at h
 ·rename_i e he
  split at h
  ·rename_i hu; exact ⟨e, he, hu⟩
  ·cases h
 ·cases h
def zc (P : Program) (hp : SH) (src dst : TypeId) (x : SV) : Option SV :=
 match x with
 | .c (.sc l off n _) => (match hp[l]? with
  | some ⟨_, _, .cells cs⟩ => if off + n ≤ cs.length ∧ qJ P src = true ∧ nw P dst = true then (match A3 ((cs.drop off).take n) with
   | some ns => some (.c (.di (.string (ns.foldl (fun r n => r.push (UInt8.ofNat n.toNat)) ByteArray.empty))))
   | none => none) else none
  | _ => none)
 | _ => none
theorem Co {src dst : TypeId} {x s : SV} {u : Value} (h : zc P hp src dst x = some s) (hh : aB ρ B w0 ls hp w) (hx : RV ρ ls x u) : ∃ z, (convert src dst u).run P w = .ok z w ∧ RV ρ ls s z := by
 unfold zc at h
 split at h
 ·rename_i l off n c
  split at h
  ·rename_i b ty cs hl
   split at h
   ·rename_i hif
    obtain ⟨h1, h2, h3⟩ := hif
    split at h
    ·rename_i ns hns
     cases h
     obtain ⟨_, ad, ha, rfl⟩ := hx
     obtain ⟨a', vs, e1, e2, e3, _⟩ := hh.bA _ _ hl
     rw [ha] at e1; cases e1
     obtain ⟨e, he1, he2⟩ := wX h2
     have hr := (e2.drop off).take n
     have hv := wW hns hr
     have hlen := e2.len
     have hn : ns.length = n := by
      have := congrArg List.length hv
      simp at this
      omega
     refine ⟨_, ?_, rfl⟩
     rw [run_convert_bytes_string w src dst e _ _ _ he1 he2 (j6 h3)]
     refine run_bytesToString w _ _ _ ns ?_
     have hc := run_loadCells_list (P := P) w (ad.add off) (ns.map (Value.int .u8)) (fun j v hj => by
      rw [← hv] at hj
      rw [add_add]
      rw [List.getElem?_take] at hj
      split at hj
      ·rw [List.getElem?_drop] at hj; exact e3 _ _ hj
      ·cases hj)
     rw [List.length_map, hn] at hc
     exact hc
    ·cases h
   ·cases h
  ·cases h
 ·cases h
def wY (tm : aw) (G : E) : Option Operand → Option (Option SV)
 | none => some none
 | some o => match cA tm G o with | some v => some (some v) | none => none
theorem A4 (hr : aX ρ ls tm a) (hG : al ρ G = true) {x : Option Operand} {r : Option SV} (h : wY tm G x = some r) : (x.map a.eval = none ∧ r = none) ∨ ∃ v s, x.map a.eval = some v ∧ r = some s ∧ RV ρ ls s v := by
 cases x with
 | none => cases h; exact .inl ⟨rfl, rfl⟩
 | some o =>
  simp only [wY] at h
  split at h
  ·rename_i v hv
   cases h
   exact .inr ⟨_, v, rfl, rfl, aj hv hr hG⟩
  ·cases h
def Ig (d : E) (l h : Int) : Option SV → Option (E × Int × Int)
 | none => some (d, l, h)
 | some (.c (.int _ e lo hi)) => some (e, lo, hi)
 | _ => none
def qK (P : Program) (hp : SH) (t : TypeId) (x : SV) (lo hi : Option SV) : Option (SV × List E) :=
 match P.underlying t with
 | some (.slice el) => (match dp P el, x with
  | some sz, .c (.ow l) => (match hp[l]? with
   | some ⟨_, _, .row sh _ n hb⟩ => if sz = sh.length then (match Ig (.ic 0) 0 0 lo, Ig n 0 hb hi with
    | some (e, l1, h1), some (f, l2, h2) => some (.c (.sl l sz e (uG f e) (h2 - l1)), (if 0 ≤ l1 then [] else [.le (.ic 0) e]) ++ ((if h1 ≤ l2 then [] else [.le e f]) ++ (if aY f n then [] else [.le f n])))
    | _, _ => none) else none
   | _ => none)
  | _, _ => none)
 | some (.array len el) => (match dp P el, x, lo, hi with
  | some _, .c (.ptr l off), none, none => if 0 < len then some (.c (.sc l off len len), []) else none
  | _, _, _, _ => none)
 | _ => none
theorem A5 {t el : TypeId} (h : P.underlying t = some (.slice el)) : P.elem t = el := by unfold Program.elem; rw [h]
theorem mo {t el : TypeId} {sz : Nat} (ht : P.underlying t = some (.slice el)) (hs : dp P el = some sz) {A : Option Addr} {N C : Nat} {lv hv : Option Value} {l h : Int}
 (hl : (lv = none ∧ l = 0) ∨ ∃ k, lv = some (.int k l)) (hh : (hv = none ∧ h = N) ∨ ∃ k, hv = some (.int k h)) (h0 : 0 ≤ l) (h1 : l ≤ h) (h2 : h ≤ N) (hNC : N ≤ C) :
 (Instr.sliceAt t (.slice A N C) lv hv none).run P w = .ok (sliced A l.toNat h.toNat C sz) w := by
 have ht' : P.underlying t = some (.slice (P.elem t)) := by rw [A5 ht]; exact ht
 rw [run_sliceAt_slice w t _ _ _ _ ht']
 have hse : (sizeOf (P.elem t)).run P w = .ok sz w := by rw [A5 ht]; exact run_sizeOf hs w
 rcases hl with ⟨rfl, rfl⟩ | ⟨k, rfl⟩ <;> rcases hh with ⟨rfl, rfl⟩ | ⟨k', rfl⟩
 ·rw [run_slice_all w t A N C ht', hse]; simp [Result.andThen]
 ·rw [run_slice_h w t A N C ht' k' h (by omega) (by omega), hse]; simp [Result.andThen]
 ·rw [run_slice_l w t A N C ht' k l h0 (by omega), hse]; simp [Result.andThen]
 ·rw [run_slice_lh w t A N C ht' k k' l h h0 h1 (by omega), hse]; simp [Result.andThen]
theorem A6 {d : E} {l h l' h' : Int} {x : Option SV} {e : E} {xv : Option Value} (hb : Ig d l h x = some (e, l', h')) (hd : l ≤ aa ρ d ∧ aa ρ d ≤ h) (hx : (xv = none ∧ x = none) ∨ ∃ v s, xv = some v ∧ x = some s ∧ RV ρ ls s v) :
 ((xv = none ∧ e = d) ∨ ∃ k, xv = some (.int k (aa ρ e))) ∧ l' ≤ aa ρ e ∧ aa ρ e ≤ h' := by
 rcases hx with ⟨rfl, rfl⟩ | ⟨v, s, rfl, rfl, hr⟩
 ·cases hb; exact ⟨.inl ⟨rfl, rfl⟩, hd⟩
 ·unfold Ig at hb
  split at hb
  ·rename_i heq; cases heq
  ·rename_i k e lo hi heq
   cases heq
   cases hb
   obtain ⟨rfl, h1, h2⟩ := hr
   exact ⟨.inr ⟨k, rfl⟩, h1, h2⟩
  ·cases hb
theorem Cp {t : TypeId} {x s : SV} {u : Value} {lo hi : Option SV} {lv hv : Option Value} {bg : List E} (h : qK P hp t x lo hi = some (s, bg)) (hh : aB ρ B w0 ls hp w) (hob : ∀ e ∈ bg, al ρ e = true) (hx : RV ρ ls x u)
 (hl : (lv = none ∧ lo = none) ∨ ∃ v s, lv = some v ∧ lo = some s ∧ RV ρ ls s v) (hhi : (hv = none ∧ hi = none) ∨ ∃ v s, hv = some v ∧ hi = some s ∧ RV ρ ls s v) : ∃ z, (Instr.sliceAt t u lv hv none).run P w = .ok z w ∧ RV ρ ls s z := by
 unfold qK at h
 split at h
 ·rename_i el ht
  split at h
  ·rename_i sz l hs
   split at h
   ·rename_i b ty sh R n hb hk
    split at h
    ·rename_i hsz
     split at h
     ·rename_i e l1 h1 f l2 h2 he hf
      cases h
      obtain ⟨A, c, g1, g2, g3, g4⟩ := pk rfl (hh.bA l _ hk)
      obtain ⟨x1, _⟩ := hx
      rw [x1] at g1; cases g1
      obtain ⟨e1, e2, e3⟩ := A6 he ⟨Int.le_refl _, Int.le_refl _⟩ hl
      obtain ⟨f1, f2, f3⟩ := A6 hf ⟨g2, g3⟩ hhi
      have o1 : 0 ≤ aa ρ e := by
       by_cases hc : 0 ≤ l1
       ·omega
       ·exact of_decide_eq_true (hob (.le (.ic 0) e) (by simp [hc]))
      have o2 : aa ρ e ≤ aa ρ f := by
       by_cases hc : h1 ≤ l2
       ·omega
       ·exact of_decide_eq_true (hob (.le e f) (by simp [hc]))
      have o3 : aa ρ f ≤ aa ρ n := by
       cases hc : aY f n
       ·exact of_decide_eq_true (hob (.le f n) (by simp [hc]))
       ·rw [aG hc]; exact Int.le_refl _
      have hrun := mo (P := P) (w := w) ht hs (A := A) (N := (aa ρ n).toNat) (C := c) (lv := lv) (hv := hv) (l := aa ρ e) (h := aa ρ f)
       (by rcases e1 with ⟨q1, q2⟩ | q; exact .inl ⟨q1, by rw [q2]; rfl⟩; exact .inr q) (by rcases f1 with ⟨q1, q2⟩ | q; exact .inl ⟨q1, by rw [q2]; omega⟩; exact .inr q) o1 o2 (by omega) g4
      refine ⟨_, hrun, ?_⟩
      have hd : aa ρ (uG f e) = aa ρ f - aa ρ e := uH ρ f e
      have hdn : (aa ρ f).toNat - (aa ρ e).toNat = (aa ρ (uG f e)).toNat := by rw [hd]; omega
      show ∃ A0 N C A' c', _
      unfold sliced
      rw [hdn]
      refine ⟨A, _, c, _, _, x1, rfl, o1, by rw [hd]; omega, by rw [hd]; omega, by rw [hd]; omega, by rw [hd]; omega, fun hpos => ?_⟩
      rw [hd] at hpos
      have hn0 : 0 < (aa ρ n).toNat := by omega
      obtain ⟨a0, c0, q⟩ := qE rfl (hh.bA l _ hk) hn0
      rw [x1] at q
      injection q with q
      injection q with q1 q2 q3
      subst q1
      refine ⟨a0, rfl, ?_⟩
      rw [if_neg (by omega)]; rfl
     ·cases h
    ·cases h
   ·cases h
  ·cases h
 ·rename_i len el ht
  split at h
  ·rename_i sz l off hsz
   split at h
   ·rename_i hlen
    cases h
    obtain ⟨a0, q1, rfl⟩ := hx
    have hlv : lv = none := by rcases hl with ⟨q, _⟩ | ⟨_, _, _, q, _⟩; exact q; cases q
    have hhv : hv = none := by rcases hhi with ⟨q, _⟩ | ⟨_, _, _, q, _⟩; exact q; cases q
    subst hlv hhv
    refine ⟨.slice (some (a0.add off)) len len, ?_, Nat.le_refl _, a0, q1, rfl⟩
    have hsz' := run_sizeOf hsz w
    have ea : P.arrayLen t = len := by unfold Program.arrayLen; rw [ht]
    have ee : P.elem t = el := by unfold Program.elem; rw [ht]
    have ht' : P.underlying t = some (.array (P.arrayLen t) (P.elem t)) := by rw [ea, ee]; exact ht
    rw [run_sliceAt_array_all w t (a0.add off) ht', ee, hsz']
    simp only [Result.andThen, slicedAt, ea, Nat.zero_mul]
    rw [if_neg (by omega)]
    simp [Addr.add]
   ·cases h
  ·cases h
 ·cases h
def Og (l1 : Int) (a b : E) : List E := if 0 ≤ l1 then [.lt (.ic 0) b] else [.lt (.ic 0) b, .le (.ic 0) a]
theorem EW {l1 : Int} {a b : E} (h : ∀ e ∈ Og l1 a b, al ρ e = true) (h1 : l1 ≤ aa ρ a) : 0 < aa ρ b ∧ 0 ≤ aa ρ a := by
 unfold Og at h
 split at h
 ·exact ⟨of_decide_eq_true (h (.lt (.ic 0) b) (by simp)), by omega⟩
 ·exact ⟨of_decide_eq_true (h (.lt (.ic 0) b) (by simp)), of_decide_eq_true (h (.le (.ic 0) a) (by simp))⟩
def EX (op : BinOp) (x y : SV) : Option (SV × List E) :=
 match x, y with
 | .c (.int k a l1 h1), .c (.int k' b _ h2) => if k = k' then (match op with
  | .quo => some (.c (fit k (.div a b) 0 h1), Og l1 a b)
  | .rem => some (.c (.int k (.mod a b) 0 (min h1 (h2 - 1))), Og l1 a b)
  | _ => none) else none
 | _, _ => none
theorem EY {op : BinOp} {t : TypeId} {x y s : SV} {u v : Value} {X Y : Operand} {bg : List E} (h : EX op x y = some (s, bg)) (hob : ∀ e ∈ bg, al ρ e = true) (hx : RV ρ ls x u) (hy : RV ρ ls y v) :
 ∃ z, ((do eqGuard op t X Y u v; binOp op t u v) : Sem Value).run P w = .ok z w ∧ RV ρ ls s z := by
 unfold EX at h
 split at h
 ·rename_i k a l1 h1 k' b l2 h2
  split at h
  ·rename_i hif
   subst hif
   obtain ⟨rfl, x2, x3⟩ := hx
   obtain ⟨rfl, y2, y3⟩ := hy
   rw [eqGuard_at_int]
   simp only [Sem.run_bind, Sem.run_pure, Result.andThen_ok]
   split at h
   ·cases h
    obtain ⟨hb, ha⟩ := EW hob x2
    refine ⟨.int k (k.wrap ((aa ρ a).tdiv (aa ρ b))), ?_, ?_⟩
    ·rw [binOp_quo]; simp [Op.intDiv, show aa ρ b ≠ 0 by omega]
    ·have e : (aa ρ a).tdiv (aa ρ b) = aa ρ a / aa ρ b := Int.tdiv_eq_ediv_of_nonneg (by omega)
     rw [e]
     exact dg rfl (Int.ediv_nonneg (by omega) (by omega)) (by have := Int.ediv_le_self (aa ρ b) (show 0 ≤ aa ρ a by omega); omega)
   ·cases h
    obtain ⟨hb, ha⟩ := EW hob x2
    refine ⟨.int k ((aa ρ a).tmod (aa ρ b)), ?_, ?_⟩
    ·rw [binOp_rem]; simp [Op.intDiv, show aa ρ b ≠ 0 by omega]
    ·have e : (aa ρ a).tmod (aa ρ b) = aa ρ a % aa ρ b := Int.tmod_eq_emod_of_nonneg (by omega)
     have q0 : 0 ≤ aa ρ a % aa ρ b := Int.emod_nonneg _ (by omega)
     have q1 : aa ρ a % aa ρ b < aa ρ b := Int.emod_lt_of_pos _ (by omega)
     have q2 : aa ρ a % aa ρ b ≤ aa ρ a := eM (by omega) (by omega)
     rw [e]
     have e2 : aa ρ (.mod a b) = aa ρ a % aa ρ b := rfl
     exact ⟨by rw [e2], by rw [e2]; omega, by rw [e2]; omega⟩
   ·cases h
  ·cases h
 ·cases h
def Cq (x : Option SV) : Option (SV × List E) := match x with | some v => some (v, []) | none => none
theorem fk {x : Option SV} {v : SV} {bg : List E} (h : Cq x = some (v, bg)) : x = some v := by
 unfold Cq at h; split at h
 ·cases h; rfl
 ·cases h
def zd (P : Program) (cf : a8) (tm : aw) (hp : SH) (G : E) (o : Oper) : Option (SV × List E) :=
 match o.op with
 | .move x | .assign x => Cq (cA tm G x)
 | .pick c x y => Cq (EP tm G c x y)
 | .nilCheck x => (match cA tm G x with
  | some (.c (.ptr l f)) => some (.c (.ptr l f), [])
  | some (.c (.gl g f)) => some (.c (.gl g f), [])
  | some (.c (.fn f p q)) => some (.c (.fn f p q), [])
  | _ => none)
 | .build t ps => (match partsOf tm G ps.toList with | some qs => Cq (y9 P t qs) | none => none)
 | .load t x => (match cA tm G x with | some (.c y) => Cq (AS P cf.bL hp t y) | _ => none)
 | .binOp op t x y _ => (match cA tm G x, cA tm G y with | some u, some v => (match LK P cf op t u v with | some r => some (r, []) | none => EX op u v) | _, _ => none)
 | .unOp op _ x => (match cA tm G x with | some u => Cq (yX op u) | none => none)
 | .convert src dst x => (match cA tm G x with | some u => (match ET P src dst u with | some v => some (v, []) | none => Cq (zc P hp src dst u)) | none => none)
 | .slice t x lo hi none => (match cA tm G x with
  | some u => (match Ie tm G lo, Ie tm G hi with
   | some l, some h => (match zb P t u l h with
    | some v => some (v, [])
    | none => (match wY tm G lo, wY tm G hi with | some l, some h => qK P hp t u l h | _, _ => none))
   | _, _ => (match wY tm G lo, wY tm G hi with | some l, some h => qK P hp t u l h | _, _ => none))
  | none => none)
 | .makeFunc (.func f) first cap => (match EV tm G first.toList, EV tm G cap.toList with | some p, some q => some (.c (.fn f p q), []) | _, _ => none)
 | .fieldAddr t x f => (match cA tm G x with | some u => Cq (lq P t u f) | none => none)
 | .field t x f => (match cA tm G x with | some u => Cq (yY P t u f) | none => none)
 | .indexAddr t x i => (match cA tm G x, cA tm G i with | some u, some v => lr P hp t u v | _, _ => none)
 | .index t x i => (match cA tm G x, cA tm G i with | some u, some v => (match Cq (yZ P t u v) with | some r => some r | none => uR P t u v) | _, _ => none)
 | .extract x i => (match cA tm G x with | some u => Cq (qG u i) | none => none)
 | .call { callee := .builtin b, args, argTypes } => (match kS tm G args.toList with | some vs => Cq (qH P hp b argTypes.toList vs) | none => none)
 | _ => none
theorem bb {s : Sem Value} {z : Value} (h : s.run P w = .ok z w) : (do pure (Next.value (← s)) : Sem Next).run P w = .ok (.value z) w := by
 simp only [Sem.run_bind, h, Result.andThen_ok, Sem.run_pure]
theorem Cr {o : Oper} {s : SV} {bg : List E} (h : zd P cf tm hp G o = some (s, bg)) (hc : LJ P cf) (hg : cf.bL = ρ.g) (hob : ∀ e ∈ bg, al ρ e = true) (hr : aX ρ ls tm a) (hG : al ρ G = true) (hh : aB ρ B w0 ls hp w) :
 ∃ z, (execOp a.eval o).run P w = .ok (.value z) w ∧ RV ρ ls s z := by
 obtain ⟨dst, op, ty, pos, after, guard⟩ := o
 cases op <;> simp only [zd] at h <;> try (cases h; done)
 case move x => exact ⟨_, rfl, aj (fk h) hr hG⟩
 case assign x => exact ⟨_, rfl, aj (fk h) hr hG⟩
 case pick c x y =>
  obtain ⟨b, h1, h2⟩ := ER (fk h) hr hG
  refine ⟨_, ?_, h2⟩
  simp [execOp, h1, asBool]
 case nilCheck x =>
  split at h
  ·rename_i l f hx
   cases h
   obtain ⟨b, hb, he⟩ := aj hx hr hG
   exact ⟨.pointer (some (b.add f)), by simp [execOp, he], b, hb, rfl⟩
  ·rename_i l f hx
   cases h
   have he : a.eval x = _ := aj hx hr hG
   exact ⟨.pointer (some ⟨l, f, none⟩), by simp [execOp, he], rfl⟩
  ·rename_i f p q hx
   cases h
   obtain ⟨fs, cs, he, h1, h2⟩ := aj hx hr hG
   exact ⟨.func (.func f) fs.toArray cs.toArray, by simp [execOp, he], fs, cs, rfl, h1, h2⟩
  ·cases h
 case build t ps =>
  split at h
  ·rename_i qs hq
   obtain ⟨z, hz, hz'⟩ := Cl (P := P) (w := w) (fk h) (iB hr hG hq)
   refine ⟨z, ?_, hz'⟩
   have e : (ps.map fun x => (x.1, a.eval x.2)) = (ps.toList.map fun x => (x.1, a.eval x.2)).toArray := by
    rw [← Array.toList_map]
   simp only [execOp]
   rw [show (ps.map fun (x : Nat × Operand) => (x.1, a.eval x.2)) = (ps.toList.map fun x => (x.1, a.eval x.2)).toArray from e]
   exact bb hz
  ·cases h
 case load t x =>
  split at h
  ·rename_i y hx
   have h' := fk h
   rw [hg] at h'
   obtain ⟨ad, u, he, hz, hz'⟩ := wR h' hh (aj hx hr hG)
   refine ⟨u, bb ?_, hz'⟩
   rw [he]
   simp only [Instr.loadAt, Instr.sureAddr, Sem.run_bind, Sem.run_pure, Result.andThen_ok]
   exact hz
  ·cases h
 case binOp op t x y yt =>
  split at h
  ·rename_i u v hx hy
   split at h
   ·rename_i r hr'
    cases h
    obtain ⟨z, hz, hz'⟩ := Ia (w := w) (X := x) (Y := y) hr' hc (aj hx hr hG) (aj hy hr hG)
    exact ⟨z, bb hz, hz'⟩
   ·obtain ⟨z, hz, hz'⟩ := EY (P := P) (w := w) (t := t) (X := x) (Y := y) h hob (aj hx hr hG) (aj hy hr hG)
    exact ⟨z, bb hz, hz'⟩
  ·cases h
 case unOp op t x =>
  split at h
  ·rename_i u hx
   obtain ⟨z, hz, hz'⟩ := Ch (P := P) (w := w) (fk h) (aj hx hr hG)
   exact ⟨z, bb hz, hz'⟩
  ·cases h
 case convert src dst x =>
  split at h
  ·rename_i u hx
   split at h
   ·rename_i v hv
    cases h
    obtain ⟨z, hz, hz'⟩ := EU (w := w) hv (aj hx hr hG)
    exact ⟨z, bb hz, hz'⟩
   ·obtain ⟨z, hz, hz'⟩ := Co (w := w) (fk h) hh (aj hx hr hG)
    exact ⟨z, bb hz, hz'⟩
  ·cases h
 case slice t x lo hi mx =>
  cases mx with
  | some _ => cases h
  | none =>
   simp only at h
   have rows : ∀ {u : SV}, cA tm G x = some u → (match wY tm G lo, wY tm G hi with | some l, some h => qK P hp t u l h | _, _ => none) = some (s, bg) → ∃ z, (execOp a.eval { dst := dst, op := .slice t x lo hi none, type := ty, pos := pos, after := after, guard := guard }).run P w = .ok (.value z) w ∧ RV ρ ls s z := fun {u} hx h => by
    split at h
    ·rename_i l hi' hl hh'
     obtain ⟨z, hz, hz'⟩ := Cp h hh hob (aj hx hr hG) (A4 hr hG hl) (A4 hr hG hh')
     exact ⟨z, bb hz, hz'⟩
    ·cases h
   split at h
   ·rename_i u hx
    split at h
    ·rename_i l hi' hl hh'
     split at h
     ·rename_i v hv
      cases h
      obtain ⟨z, hz, hz'⟩ := Cm (P := P) (w := w) hv (aj hx hr hG) (AZ hr hG hl) (AZ hr hG hh')
      exact ⟨z, bb hz, hz'⟩
     ·exact rows hx h
    ·exact rows hx h
   ·cases h
 case makeFunc fn first cap =>
  cases fn <;> simp only at h <;> try (cases h; done)
  rename_i f
  split at h
  ·rename_i p q hp' hq'
   cases h
   have h1 := uS hr hG hp'
   have h2 := uS hr hG hq'
   refine ⟨.func (.func f) (first.toList.map a.eval).toArray (cap.toList.map a.eval).toArray, ?_, _, _, rfl, h1, h2⟩
   have e : ∀ xs : Array Operand, xs.map a.eval = (xs.toList.map a.eval).toArray := fun xs => by rw [← Array.toList_map]
   simp only [execOp, e]
   rfl
  ·cases h
 case fieldAddr t x f =>
  split at h
  ·rename_i u hx
   obtain ⟨z, hz, hz'⟩ := sF (w := w) (fk h) (aj hx hr hG)
   exact ⟨z, bb hz, hz'⟩
  ·cases h
 case field t x f =>
  split at h
  ·rename_i u hx
   obtain ⟨z, hz, hz'⟩ := Ci (w := w) (fk h) (aj hx hr hG)
   exact ⟨z, bb hz, hz'⟩
  ·cases h
 case indexAddr t x i =>
  split at h
  ·rename_i u v hx hy
   obtain ⟨z, hz, hz'⟩ := sG (w := w) h hh hob (aj hx hr hG) (aj hy hr hG)
   exact ⟨z, bb hz, hz'⟩
  ·cases h
 case index t x i =>
  split at h
  ·rename_i u v hx hy
   have : ∃ z, (Instr.index t (a.eval x) (a.eval i)).run P w = .ok z w ∧ RV ρ ls s z := by
    split at h
    ·rename_i r hn
     cases h
     exact Cj (w := w) (fk hn) (aj hx hr hG) (aj hy hr hG)
    ·exact y8 (w := w) h hob (aj hx hr hG) (aj hy hr hG)
   obtain ⟨z, hz, hz'⟩ := this
   exact ⟨z, bb hz, hz'⟩
  ·cases h
 case extract x i =>
  split at h
  ·rename_i u hx
   obtain ⟨z, hz, hz'⟩ := wT (P := P) (w := w) (fk h) (aj hx hr hG)
   exact ⟨z, bb hz, hz'⟩
  ·cases h
 case call c =>
  obtain ⟨callee, args, ats⟩ := c
  cases callee <;> simp only at h <;> try (cases h; done)
  rename_i b
  split at h
  ·rename_i vs hvs
   obtain ⟨z, hz, hz'⟩ := wV (P := P) (w := w) (ty := ty) (cs := args.map fun | .const _ => true | _ => false) (fk h) hh (b8 hr hG hvs)
   refine ⟨z, ?_, hz'⟩
   have e : args.map a.eval = (args.toList.map a.eval).toArray := by rw [← Array.toList_map]
   simp only [execOp, resolve, Sem.run_bind, Sem.run_pure, Result.andThen_ok, invoke, e]
   have e2 : ats.toList.toArray = ats := by simp
   rw [e2] at hz
   exact hz
  ·cases h
def fB : E → E
 | .ic n => .ic n
 | .add a b => .add a b
 | .sub a b => .sub a b
 | .mul a b => .mul a b
 | .mx a b => .mx a b
 | .mn a b => .mn a b
 | .div a b => .div a b
 | .mod a b => .mod a b
 | .can e => .can e
 | e => .can e
def qL : E → E
 | .bc b => .bc b
 | .not a => .not a
 | .eq a b => .eq a b
 | .lt a b => .lt a b
 | .le a b => .le a b
 | .and a b => .and a b
 | .or a b => .or a b
 | .wL e => .wL e
 | e => .wL e
theorem A7 (e : E) : (ev ρ (fB e)).x = xI (aa ρ e) := by
 unfold fB; split <;> simp [ev, dI, xI, aa]
theorem A8 (e : E) : (ev ρ (qL e)).x = xB (al ρ e) := by
 unfold qL; split <;> simp [ev, dB, xB, al]
def qM : List Ck → List SC → Option (List E)
 | [], [] => some []
 | .int k lo hi :: ks, .int k' e l h :: cs => if k = k' ∧ lo ≤ l ∧ h ≤ hi then (match qM ks cs with | some r => some (fB e :: r) | none => none) else none
 | .bool :: ks, .bool e :: cs => (match qM ks cs with | some r => some (qL e :: r) | none => none)
 | _, _ => none
def flat : List Sh → List SV → Option (List E)
 | [], [] => some []
 | .one k :: sh, .c s :: vs => (match qM [k] [s], flat sh vs with | some e, some r => some (e ++ r) | _, _ => none)
 | .agg ks :: sh, .agg cs :: vs => (match qM ks cs, flat sh vs with | some e, some r => some (e ++ r) | _, _ => none)
 | _, _ => none
def aL : List E → E
 | [] => .nil
 | e :: r => .cons e (aL r)
abbrev Ds := List X
def aM (ρ : Env) (es : List E) : Ds := es.map fun e => (ev ρ e).x
theorem bM (es : List E) : (ev ρ (aL es)).l = aM ρ es := by
 induction es with
 | nil => rfl
 | cons e r ih => simp only [aL, ev, aM, List.map_cons]; rw [ih]; rfl
def Cs : List Ck → Ds → List Value
 | [], _ => []
 | .int k _ _ :: ks, d :: ds => .int k d.i :: Cs ks ds
 | .bool :: ks, d :: ds => .bool d.b :: Cs ks ds
 | _, _ => []
def Ih : List Ck → Ds → Prop
 | [], _ => True
 | .int _ lo hi :: ks, d :: ds => (d = xI d.i ∧ lo ≤ d.i ∧ d.i ≤ hi) ∧ Ih ks ds
 | .bool :: ks, d :: ds => d = xB d.b ∧ Ih ks ds
 | _, _ => False
def wZ : List Sh → Ds → List Value
 | [], _ => []
 | .one k :: sh, ds => Cs [k] ds ++ wZ sh (ds.drop 1)
 | .agg ks :: sh, ds => .agg (Cs ks ds).toArray :: wZ sh (ds.drop ks.length)
def w4 : List Sh → Ds → Prop
 | [], ds => ds = []
 | .one k :: sh, ds => Ih [k] ds ∧ w4 sh (ds.drop 1)
 | .agg ks :: sh, ds => Ih ks ds ∧ w4 sh (ds.drop ks.length)
def Ct (x : X) : Ck → Value → Prop
 | .int k lo hi, v => v = .int k x.i ∧ lo ≤ x.i ∧ x.i ≤ hi
 | .bool, v => v = .bool x.b
 | .ln hi, v => ∃ A c, v = .slice A x.i.toNat c ∧ 0 ≤ x.i ∧ x.i ≤ hi
 | .di u, v => v = u
 | .str hi, v => ∃ s : ByteArray, v = .string s ∧ x.v = .string s ∧ x.i = s.size ∧ (s.size : Int) ≤ hi
def Mz (f : Nat → X) : Nat → List Ck → List Value → Prop
 | _, [], [] => True
 | j, r :: rs, v :: vs => Ct (f j) r v ∧ Mz f (j + 1) rs vs
 | _, _, _ => False
def Ju (f : Nat → X) : Nat → List (Bool × List Ck) → List Value → Prop
 | _, [], [] => True
 | j, (true, rs) :: l, v :: vs => (∃ us, v = .agg us.toArray ∧ Mz f j rs us) ∧ Ju f (j + rs.length) l vs
 | j, (false, [r]) :: l, v :: vs => Ct (f j) r v ∧ Ju f (j + 1) l vs
 | _, _, _ => False
def qN (f : Nat → X) (j : Nat) : Rs → Value → Prop
 | .one r, v => Ct (f j) r v
 | .agg rs, v => ∃ us, v = .agg us.toArray ∧ Mz f j rs us
 | .eJ l, v => ∃ us, v = .tuple us.toArray ∧ Ju f j l us
def fZ (P : Program) (ρ : Env) (c : kq) : Prop :=
 ∀ (ds : Ds) (w : World), cE ρ.g w.heap.size w → w4 c.args ds → (match c.pre with | none => True | some k => ρ.p k ds) →
  Calls P c.f (wZ c.args ds).toArray w fun e w' => ∃ v, e = .returned v ∧ qN (fun j => ρ.f j ds) c.fs c.res v ∧ Below w.heap.size w w'
def LN (A : E) (j : Nat) : Ck → SC
 | .int k lo hi => .int k (.app j A) lo hi
 | .bool => .bool (.app j A)
 | .ln hi => .ln (.app j A) hi
 | .di v => oM v
 | .str hi => .str (.app j A) hi
def Ii (A : E) : Nat → List Ck → List SC
 | _, [] => []
 | j, r :: rs => LN A j r :: Ii A (j + 1) rs
def LO (A : E) : Nat → List (Bool × List Ck) → List (Bool × List SC)
 | _, [] => []
 | j, (b, rs) :: l => (b, Ii A j rs) :: LO A (j + rs.length) l
def NG (A : E) (j : Nat) : Rs → SV
 | .one r => .c (LN A j r)
 | .agg rs => .agg (Ii A j rs)
 | .eJ l => .eJ (LO A j l)
theorem w5 : ∀ {ks : List Ck} {cs : List SC} {es : List E} {us : List Value} {ds : Ds}, qM ks cs = some es → ai (RS ρ ls) cs us → us = Cs ks (aM ρ es ++ ds) ∧ es.length = ks.length ∧ Ih ks (aM ρ es ++ ds) := by
 intro ks
 induction ks with
 | nil =>
  intro cs es us ds h hr
  cases cs with
  | nil => cases h; cases us with
   | nil => exact ⟨rfl, rfl, trivial⟩
   | cons _ _ => exact hr.elim
  | cons _ _ => cases h
 | cons k ks ih =>
  intro cs es us ds h hr
  cases cs with
  | nil => cases k <;> cases h
  | cons c cs => cases us with
   | nil => exact hr.elim
   | cons u us =>
    cases k with
    | int k lo hi =>
     cases c <;> simp only [qM] at h <;> try (cases h; done)
     split at h
     ·rename_i hk
      obtain ⟨rfl, hlo, hhi⟩ := hk
      split at h
      ·rename_i r hrr
       cases h
       obtain ⟨⟨rfl, r1, r2⟩, hr'⟩ := hr
       obtain ⟨i1, i2, i3⟩ := ih (ds := ds) hrr hr'
       refine ⟨by rw [i1]; simp only [aM, List.map_cons, List.cons_append, Cs]; rw [A7]; rfl, by simp [i2], ?_⟩
       simp only [aM, List.map_cons, List.cons_append, Ih]
       rw [A7]
       refine ⟨⟨rfl, ?_, ?_⟩, i3⟩
       ·show lo ≤ aa ρ _; omega
       ·show aa ρ _ ≤ hi; omega
      ·cases h
     ·cases h
    | bool =>
     cases c <;> simp only [qM] at h <;> try (cases h; done)
     rename_i e
     split at h
     ·rename_i r hrr
      cases h
      obtain ⟨hu, hr'⟩ := hr
      have hu' : u = .bool (al ρ e) := hu
      subst hu'
      obtain ⟨i1, i2, i3⟩ := ih (ds := ds) hrr hr'
      refine ⟨by rw [i1]; simp only [aM, List.map_cons, List.cons_append, Cs]; rw [A8]; rfl, by simp [i2], ?_⟩
      simp only [aM, List.map_cons, List.cons_append, Ih]
      rw [A8]
      exact ⟨rfl, i3⟩
     ·cases h
    | ln hi => cases c <;> cases h
    | di v => cases c <;> cases h
    | str hi => cases c <;> cases h
theorem Ij : ∀ {sh : List Sh} {vs : List SV} {es : List E} {us : List Value}, flat sh vs = some es → ai (RV ρ ls) vs us → us = wZ sh (aM ρ es) ∧ w4 sh (aM ρ es) := by
 intro sh
 induction sh with
 | nil =>
  intro vs es us h hr
  cases vs with
  | nil => cases us with
   | nil => cases h; exact ⟨rfl, rfl⟩
   | cons _ _ => exact hr.elim
  | cons _ _ => cases h
 | cons s sh ih =>
  intro vs es us h hr
  cases vs with
  | nil => cases s <;> cases h
  | cons v vs => cases us with
   | nil => exact hr.elim
   | cons u us =>
    cases s with
    | one k =>
     cases v <;> simp only [flat] at h <;> try (cases h; done)
     rename_i sc
     split at h
     ·rename_i e r he hrr
      cases h
      obtain ⟨hu, hr'⟩ := hr
      obtain ⟨i1, i2, i4⟩ := w5 (us := [u]) (ds := aM ρ r) he ⟨hu, trivial⟩
      obtain ⟨i3, i5⟩ := ih hrr hr'
      simp only [wZ, w4]
      have e1 : aM ρ (e ++ r) = aM ρ e ++ aM ρ r := by simp [aM]
      have e2 : (aM ρ e ++ aM ρ r).drop 1 = aM ρ r := by
       have : (aM ρ e).length = 1 := by simp [aM, i2]
       rw [List.drop_append_of_le_length (by omega), List.drop_of_length_le (by omega)]; rfl
      rw [e1, e2]
      refine ⟨?_, i4, i5⟩
      rw [← i1, ← i3]
      rfl
     ·cases h
    | agg ks =>
     cases v <;> simp only [flat] at h <;> try (cases h; done)
     rename_i cs
     split at h
     ·rename_i e r he hrr
      cases h
      obtain ⟨⟨vs', rfl, hu⟩, hr'⟩ := hr
      obtain ⟨i1, i2, i4⟩ := w5 (us := vs') (ds := aM ρ r) he hu
      obtain ⟨i3, i5⟩ := ih hrr hr'
      simp only [wZ, w4]
      have e1 : aM ρ (e ++ r) = aM ρ e ++ aM ρ r := by simp [aM]
      have e2 : (aM ρ e ++ aM ρ r).drop ks.length = aM ρ r := by
       have : (aM ρ e).length = ks.length := by simp [aM, i2]
       rw [List.drop_append_of_le_length (by omega), List.drop_of_length_le (by omega)]; rfl
      rw [e1, e2]
      refine ⟨?_, i4, i5⟩
      rw [← i1, ← i3]
     ·cases h
theorem ze {A : E} {ds : Ds} (hA : (ev ρ A).l = ds) {j : Nat} {r : Ck} {v : Value} (h : Ct (ρ.f j ds) r v) : RS ρ ls (LN A j r) v := by
 have e : (ev ρ (.app j A)).x = ρ.f j ds := by show ρ.f j (ev ρ A).l = _; rw [hA]
 cases r with
 | int k lo hi => simp only [LN, RS, aa]; rw [e]; exact h
 | bool => simp only [LN, RS, al]; rw [e]; exact h
 | ln hi => simp only [LN, RS, aa]; rw [e]; exact h
 | di u => have h' : v = u := h; subst h'; exact ix ρ ls v
 | str hi => simp only [LN, RS, aa]; rw [e]; exact h
theorem uT {A : E} {ds : Ds} (hA : (ev ρ A).l = ds) : ∀ {rs : List Ck} {j : Nat} {vs : List Value}, Mz (fun j => ρ.f j ds) j rs vs → ai (RS ρ ls) (Ii A j rs) vs
 | [], _, [], _ => trivial
 | _ :: _, _, _ :: _, h => ⟨ze hA h.1, uT hA h.2⟩
 | [], _, _ :: _, h => h.elim
 | _ :: _, _, [], h => h.elim
theorem uU {A : E} {ds : Ds} (hA : (ev ρ A).l = ds) : ∀ {l : List (Bool × List Ck)} {j : Nat} {vs : List Value}, Ju (fun j => ρ.f j ds) j l vs → ai (RE ρ ls) (LO A j l) vs
 | [], _, [], _ => trivial
 | (true, rs) :: l, j, v :: vs, h => by
  obtain ⟨⟨us, rfl, h1⟩, h2⟩ := h
  exact ⟨⟨us, rfl, uT hA h1⟩, uU hA h2⟩
 | (false, [r]) :: l, j, v :: vs, h => ⟨ze hA h.1, uU hA h.2⟩
 | [], _, _ :: _, h => h.elim
 | (false, []) :: _, _, _ :: _, h => h.elim
 | (false, _ :: _ :: _) :: _, _, _ :: _, h => h.elim
 | (_, _) :: _, _, [], h => by simp [Ju] at h
theorem Ik {A : E} {ds : Ds} (hA : (ev ρ A).l = ds) {j : Nat} {r : Rs} {v : Value} (h : qN (fun j => ρ.f j ds) j r v) : RV ρ ls (NG A j r) v := by
 cases r with
 | one r => exact ze hA h
 | agg rs => obtain ⟨us, rfl, h1⟩ := h; exact ⟨us, rfl, uT hA h1⟩
 | eJ l => obtain ⟨us, rfl, h1⟩ := h; exact ⟨us, rfl, uU hA h1⟩
def uV : E → Option X
 | .ic n => some (xI n)
 | .bc b => some (xB b)
 | .cv v => some (xV v)
 | .cs s => some (xS s)
 | _ => none
def uW : E → Option Ds
 | .nil => some []
 | .cons e r => (match uV e, uW r with | some x, some xs => some (x :: xs) | _, _ => none)
 | _ => none
def QH (sz : Nat) (ds : Ds) : Int → Int → Y := fun j p => (ds.getD (j.toNat * sz + p.toNat) (xI 0)).y
def zf : E → Option X
 | .eY (.bE sz es) (.ic n) => (match uW es with | some ds => some ⟨n, false, .nilIface, QH sz ds⟩ | none => none)
 | e => uV e
def jn : List E → Option Ds
 | [] => some []
 | e :: r => match zf e, jn r with | some x, some xs => some (x :: xs) | _, _ => none
theorem tw {e : E} {x : X} (h : uV e = some x) : (ev ρ e).x = x := by
 unfold uV at h
 split at h <;> cases h <;> rfl
theorem Cu : ∀ {e : E} {ds : Ds}, uW e = some ds → (ev ρ e).l = ds := by
 intro e
 induction e with
 | nil => intro ds h; cases h; rfl
 | cons a b _ ih =>
  intro ds h
  simp only [uW] at h
  split at h
  ·rename_i x xs h1 h2
   cases h
   show (ev ρ a).x :: (ev ρ b).l = _
   rw [tw h1, ih h2]
  ·cases h
 | _ => intro ds h; cases h
theorem Cv {e : E} {x : X} (h : zf e = some x) : (ev ρ e).x = x := by
 unfold zf at h
 split at h
 ·split at h
  ·rename_i ds h1
   cases h
   show X.mk _ _ _ (fun j p => ((ev ρ _).l.getD _ _).y) = _
   rw [Cu h1]; rfl
  ·cases h
 ·exact tw h
theorem ep : ∀ {es : List E} {ds : Ds}, jn es = some ds → aM ρ es = ds
 | [], _, h => by cases h; rfl
 | e :: r, ds, h => by
  simp only [jn] at h
  split at h
  ·rename_i x xs hx hxs
   cases h
   have h1 := ep hxs
   have h2 : (ev ρ e).x = x := Cv hx
   simp only [aM, List.map_cons] at h1 ⊢
   rw [h1, h2]
  ·cases h
def LP (x : X) : Ck → SC
 | .int k _ _ => .int k (.ic x.i) x.i x.i
 | .bool => .bool (.bc x.b)
 | .ln hi => .ln (.ic x.i) hi
 | .di v => oM v
 | .str _ => .di x.v
def A9 (f : Nat → X) : Nat → List Ck → List SC
 | _, [] => []
 | j, r :: rs => LP (f j) r :: A9 f (j + 1) rs
def EZ (f : Nat → X) : Nat → List (Bool × List Ck) → List (Bool × List SC)
 | _, [] => []
 | j, (b, rs) :: l => (b, A9 f j rs) :: EZ f (j + rs.length) l
def Jv (f : Nat → X) (j : Nat) : Rs → SV
 | .one r => .c (LP (f j) r)
 | .agg rs => .agg (A9 f j rs)
 | .eJ l => .eJ (EZ f j l)
theorem uX {x : X} {r : Ck} {v : Value} (h : Ct x r v) : RS ρ ls (LP x r) v := by
 cases r with
 | int k lo hi => exact ⟨h.1, Int.le_refl _, Int.le_refl _⟩
 | bool => exact h
 | ln hi => exact h
 | di u => have h' : v = u := h; subst h'; exact ix ρ ls v
 | str hi => obtain ⟨s, rfl, h2, _⟩ := h; exact h2.symm
theorem qO {f : Nat → X} : ∀ {rs : List Ck} {j : Nat} {vs : List Value}, Mz f j rs vs → ai (RS ρ ls) (A9 f j rs) vs
 | [], _, [], _ => trivial
 | _ :: _, _, _ :: _, h => ⟨uX h.1, qO h.2⟩
 | [], _, _ :: _, h => h.elim
 | _ :: _, _, [], h => h.elim
theorem qP {f : Nat → X} : ∀ {l : List (Bool × List Ck)} {j : Nat} {vs : List Value}, Ju f j l vs → ai (RE ρ ls) (EZ f j l) vs
 | [], _, [], _ => trivial
 | (true, rs) :: l, j, v :: vs, h => by
  obtain ⟨⟨us, rfl, h1⟩, h2⟩ := h
  exact ⟨⟨us, rfl, qO h1⟩, qP h2⟩
 | (false, [r]) :: l, j, v :: vs, h => ⟨uX h.1, qP h.2⟩
 | [], _, _ :: _, h => h.elim
 | (false, []) :: _, _, _ :: _, h => h.elim
 | (false, _ :: _ :: _) :: _, _, _ :: _, h => h.elim
 | (_, _) :: _, _, [], h => by simp [Ju] at h
theorem E0 {f : Nat → X} {j : Nat} {r : Rs} {v : Value} (h : qN f j r v) : RV ρ ls (Jv f j r) v := by
 cases r with
 | one r => exact uX h
 | agg rs => obtain ⟨us, rfl, h1⟩ := h; exact ⟨us, rfl, qO h1⟩
 | eJ l => obtain ⟨us, rfl, h1⟩ := h; exact ⟨us, rfl, qP h1⟩
def LQ (cf : a8) (es : List E) (c : kq) : SV :=
 match cf.F, jn es with
 | some F, some ds => Jv (fun j => F j ds) c.fs c.res
 | _, _ => NG (aL es) c.fs c.res
theorem Il {es : List E} {c : kq} {v : Value} (hF : ∀ F, cf.F = some F → F = ρ.f) (h : qN (fun j => ρ.f j (aM ρ es)) c.fs c.res v) : RV ρ ls (LQ cf es c) v := by
 unfold LQ
 split
 ·rename_i F ds e1 e2
  have e := hF F e1
  subst e
  rw [ep e2] at h
  exact E0 h
 ·exact Ik (bM es) h
def mq : List kq → FuncId → List SV → Option (kq × List E)
 | [], _, _ => none
 | c :: r, f, vs => if c.f == f then (match flat c.args vs with | some es => some (c, es) | none => mq r f vs) else mq r f vs
theorem lu : ∀ {l : List kq} {f : FuncId} {vs : List SV} {c : kq} {es : List E}, mq l f vs = some (c, es) → c ∈ l ∧ c.f = f ∧ flat c.args vs = some es
 | [], _, _, _, _, h => by cases h
 | x :: r, f, vs, c, es, h => by
  simp only [mq] at h
  split at h
  ·rename_i he
   split at h
   ·rename_i es' hes
    cases h
    exact ⟨by simp, by simpa using he, hes⟩
   ·obtain ⟨h1, h2⟩ := lu h
    exact ⟨by simp [h1], h2⟩
  ·obtain ⟨h1, h2⟩ := lu h
   exact ⟨by simp [h1], h2⟩
def Ow.Ok (ρ : Env) (o : Ow) : Prop := (∀ e ∈ o.bg, al ρ e = true) ∧ (match o.pre with | none => True | some (k, A) => ρ.p k (ev ρ A).l)
def lA : List (FuncId × Func) → FuncId → Option Func
 | [], _ => none
 | (g, fn) :: r, f => if g == f then some fn else lA r f
def gB (w : World) (sh : List Sk) (hi : Int) (x : X) (v : Value) : Prop :=
 ∃ A c, v = .slice A x.i.toNat c ∧ 0 ≤ x.i ∧ x.i ≤ hi ∧ x.i.toNat ≤ c ∧ 0 < sh.length ∧ au sh x.r x.i.toNat ∧ (0 < x.i.toNat → ∃ a, A = some a ∧ ∀ j u, (aO sh x.r x.i.toNat)[j]? = some u → w.cell? (a.add j) = some u)
def NH (d : X) : RA → Prop
 | .int _ lo hi => d = xI d.i ∧ lo ≤ d.i ∧ d.i ≤ hi
 | .bool => d = xB d.b
 | .str hi => ∃ s : ByteArray, d.v = .string s ∧ d.i = s.size ∧ (s.size : Int) ≤ hi
 | .row sh hi => 0 ≤ d.i ∧ d.i ≤ hi ∧ au sh d.r d.i.toNat
 | .abs t => Eo t d
def Jw (w : World) (d : X) : RA → Value → Prop
 | .int k lo hi, v => v = .int k d.i ∧ d = xI d.i ∧ lo ≤ d.i ∧ d.i ≤ hi
 | .bool, v => v = .bool d.b ∧ d = xB d.b
 | .str hi, v => ∃ s : ByteArray, v = .string s ∧ d.v = .string s ∧ d.i = s.size ∧ (s.size : Int) ≤ hi
 | .row sh hi, v => gB w sh hi d v
 | .abs t, v => Hb t w d v
def Ba (w : World) : List RA → Ds → List Value → Prop
 | [], [], [] => True
 | k :: ks, d :: ds, v :: vs => Jw w d k v ∧ Ba w ks ds vs
 | _, _, _ => False
def bT (w : World) : List iY → Ds → List Value → Prop
 | [], [], [] => True
 | .one k :: sh, d :: ds, v :: vs => Jw w d k v ∧ bT w sh ds vs
 | .agg ks :: sh, ds, v :: vs => (∃ us, v = .agg us.toArray ∧ Ba w ks (ds.take ks.length) us) ∧ bT w sh (ds.drop ks.length) vs
 | .lH ks :: sh, ds, v :: vs => (∃ us, v = .iface 46 (.agg us.toArray) ∧ Ba w ks (ds.take ks.length) us) ∧ bT w sh (ds.drop ks.length) vs
 | .ptr ks :: sh, ds, v :: vs => (∃ a us, v = .pointer (some a) ∧ (∀ (j : Nat) u, us[j]? = some u → w.cell? (a.add j) = some u) ∧ a.block < w.heap.size ∧ Ba w ks (ds.take ks.length) us) ∧ bT w sh (ds.drop ks.length) vs
 | _, _, _ => False
def BZ (B : Nat) (w : World) (x : X) : nV → Value → Prop
 | .int k lo hi, v => v = .int k x.i ∧ lo ≤ x.i ∧ x.i ≤ hi
 | .bool, v => v = .bool x.b
 | .di u, v => v = u
 | .str hi, v => ∃ s : ByteArray, v = .string s ∧ x.v = .string s ∧ x.i = s.size ∧ (s.size : Int) ≤ hi
 | .row ty sh hi, v => (∃ A c, v = .slice A x.i.toNat c ∧ x.i.toNat ≤ c) ∧ 0 ≤ x.i ∧ x.i ≤ hi ∧ 0 < sh.length ∧ au sh x.r x.i.toNat ∧ w.ownsRow B ty sh.length v x.i.toNat (aO sh x.r x.i.toNat)
def Jx (B : Nat) (w : World) (f : Nat → X) : Nat → List nV → List Value → Prop
 | _, [], [] => True
 | j, r :: rs, v :: vs => BZ B w (f j) r v ∧ Jx B w f (j + 1) rs vs
 | _, _, _ => False
def Cw (B : Nat) (w : World) (f : Nat → X) : Nat → List (Bool × List nV) → List Value → Prop
 | _, [], [] => True
 | j, (true, rs) :: l, v :: vs => (∃ us, v = .agg us.toArray ∧ Jx B w f j rs us) ∧ Cw B w f (j + rs.length) l vs
 | j, (false, [r]) :: l, v :: vs => BZ B w (f j) r v ∧ Cw B w f (j + 1) l vs
 | _, _, _ => False
def w6 (B : Nat) (w : World) (f : Nat → X) (j : Nat) : BX → Value → Prop
 | .one r, v => BZ B w (f j) r v
 | .agg rs, v => ∃ us, v = .agg us.toArray ∧ Jx B w f j rs us
 | .eJ l, v => ∃ us, v = .tuple us.toArray ∧ Cw B w f j l us
def aZ (P : Program) (ρ : Env) (c : br) : Prop :=
 ∀ (ds : Ds) (vs : List Value) (w : World), cE ρ.g w.heap.size w → bT w c.args ds vs → (match c.pre with | none => True | some k => ρ.p k ds) →
  Calls P c.f vs.toArray w fun e w' => ∃ v, e = .returned v ∧ w6 w.heap.size w' (fun j => ρ.f j ds) c.fs c.res v ∧ Below w.heap.size w w'
variable {w' : World}
def uY (e : E) (lo hi lo' hi' : Int) : List E := (if lo ≤ lo' then [] else [.le (.ic lo) e]) ++ (if hi' ≤ hi then [] else [.le e (.ic hi)])
theorem iC {ρ : Env} {e : E} {lo hi lo' hi' : Int} (h : ∀ x ∈ uY e lo hi lo' hi', al ρ x = true) (h1 : lo' ≤ aa ρ e) (h2 : aa ρ e ≤ hi') : lo ≤ aa ρ e ∧ aa ρ e ≤ hi := by
 unfold uY at h
 constructor
 ·by_cases hl : lo ≤ lo'
  ·omega
  ·have := h (.le (.ic lo) e) (by simp [hl])
   exact of_decide_eq_true this
 ·by_cases hl : hi' ≤ hi
  ·omega
  ·have := h (.le e (.ic hi)) (by simp [hl])
   exact of_decide_eq_true this
def w7 : Sk → Sk → Bool
 | .int k lo hi, .int k' lo' hi' => decide (k = k') && decide (lo' ≤ lo) && decide (hi ≤ hi')
 | .bool, .bool => true
 | .p8, .p8 => true
 | .str h, .str h' => decide (h ≤ h')
 | _, _ => false
def iw : List Sk → List Sk → Bool
 | [], [] => true
 | a :: r, b :: s => w7 a b && iw r s
 | _, _ => false
theorem Bb {a b : Sk} (h : w7 a b = true) : (∀ y, dM a y → dM b y) ∧ ∀ y, iR a y = iR b y := by
 cases a <;> cases b <;> simp [w7] at h
 ·obtain ⟨⟨rfl, h2⟩, h3⟩ := h
  exact ⟨fun y hy => ⟨by have := hy.1; omega, by have := hy.2; omega⟩, fun y => rfl⟩
 ·exact ⟨fun y hy => hy, fun y => rfl⟩
 ·exact ⟨fun y hy => hy, fun y => rfl⟩
 ·exact ⟨fun y hy => by obtain ⟨s, h1, h2, h3⟩ := hy; exact ⟨s, h1, h2, by omega⟩, fun y => rfl⟩
theorem eZ : ∀ {a b : List Sk}, iw a b = true → a.length = b.length
 | [], [], _ => rfl
 | _ :: r, _ :: s, h => by simp only [iw, Bool.and_eq_true] at h; simp [eZ h.2]
 | [], _ :: _, h => by cases h
 | _ :: _, [], h => by cases h
theorem uZ : ∀ {a b : List Sk}, iw a b = true → ∀ (f : Int → Y) (j : Int), (oF a f j → oF b f j) ∧ gk a f j = gk b f j
 | [], [], _, _, _ => ⟨fun h => h, rfl⟩
 | x :: r, y :: s, h, f, j => by
  simp only [iw, Bool.and_eq_true] at h
  obtain ⟨i1, i2⟩ := uZ h.2 f (j + 1)
  obtain ⟨j1, j2⟩ := Bb h.1
  exact ⟨fun hh => ⟨j1 _ hh.1, i1 hh.2⟩, by simp only [gk]; rw [j2, i2]⟩
 | [], _ :: _, h, _, _ => by cases h
 | _ :: _, [], h, _, _ => by cases h
theorem dW {a b : List Sk} (h : iw a b = true) (R : Int → Int → Y) : ∀ n, (au a R n → au b R n) ∧ aO a R n = aO b R n
 | 0 => ⟨fun _ i hi => by omega, rfl⟩
 | n + 1 => by
  obtain ⟨i1, i2⟩ := dW h R n
  exact ⟨fun hh i hi => (uZ h _ _).1 (hh i hi), by simp only [aO]; rw [i2, (uZ h _ _).2]⟩
def gq (R n : E) : E := if aY R n then R else .eY R n
theorem gr {R k : E} : aa ρ (gq R k) = aa ρ k ∧ aU ρ (gq R k) = aU ρ R := by
 unfold gq
 split
 ·rename_i h; rw [aG h]; exact ⟨rfl, rfl⟩
 ·exact ⟨rfl, rfl⟩
def Oh : Sk → SC → Option E
 | .int k lo hi, .int k' e l h => if k = k' ∧ lo ≤ l ∧ h ≤ hi then some e else none
 | .bool, .bool e => some e
 | .p8, .Gu e => some e
 | .p8, .di v => if v.oneCell' then some (.cv v) else none
 | .str hi, .str e h => if h ≤ hi then some e else none
 | .str hi, .di (.string s) => if (s.size : Int) ≤ hi then some (.cs s) else none
 | _, _ => none
def mV (all : List Sk) : List Sk → List SC → Option (List E)
 | [], [] => some []
 | [], c :: cs => (match all with
  | s :: r => (match Oh s c, mV all r cs with | some e, some es => some (e :: es) | _, _ => none)
  | [] => none)
 | s :: r, c :: cs => (match Oh s c, mV all r cs with | some e, some es => some (e :: es) | _, _ => none)
 | _ :: _, [] => none
def jm (hp : SH) (sh : List Sk) (hi : Int) : SC → Option (E × List E)
 | .ow l => (match hp[l]? with
  | some ⟨_, _, .row sh' R n hi'⟩ => if iw sh' sh then some (gq R n, uY n 0 hi 0 hi') else none
  | some ⟨_, _, .grow sz cs⟩ => if sz = sh.length ∧ ((cs.length / sz : Nat) : Int) ≤ hi then (match mV sh [] cs with
   | some es => some (.eY (.bE sh.length (aL es)) (.ic (cs.length / sz : Nat)), [])
   | none => none) else none
  | _ => none)
 | .sl l z lo n hi' => (match hp[l]? with
  | some ⟨_, _, .row sh' R _ _⟩ => if (z == sh'.length) && iw sh' sh then some (.eY (.tj R lo) n, uY n 0 hi 0 hi') else none
  | _ => none)
 | .di (.slice none 0 0) => if decide (0 < sh.length) && decide (0 ≤ hi) then some (.eY (.bE 1 .nil) (.ic 0), []) else none
 | .sc l off n _ => (match hp[l]? with
  | some ⟨_, _, .cells cs⟩ => if off + n * sh.length ≤ cs.length ∧ 0 < sh.length ∧ (n : Int) ≤ hi then (match mV sh [] ((cs.drop off).take (n * sh.length)) with
   | some es => some (.eY (.bE sh.length (aL es)) (.ic n), [])
   | none => none) else none
  | _ => none)
 | .abs 2 [l] (.cons k .nil) => (match hp[l]?, sh with
  | some ⟨_, _, .abs 0 [] (.cons d .nil)⟩, [.int .i64 lo h2] => if lo ≤ 0 ∧ 255 ≤ h2 ∧ 64 ≤ hi then some (.eY (.tj d (.mul (.ic 64) k)) (.ic 64), []) else none
  | _, _ => none)
 | _ => none
def sW (hp : SH) : RA → SC → Option (E × List E)
 | .int k lo hi, .int k' e l h => if k = k' then some (fB e, uY e lo hi l h) else none
 | .bool, .bool e => some (qL e, [])
 | .str hi, .str e h => if h ≤ hi then some (e, []) else none
 | .str hi, .di (.string s) => if (s.size : Int) ≤ hi then some (.cs s, []) else none
 | .row sh hi, s => jm hp sh hi s
 | .abs t, .abs t' [l] .nil => (match hp[l]? with
  | some ⟨_, _, .abs t'' [] (.cons e .nil)⟩ => if t' = t ∧ t'' = t then some (e, []) else none
  | _ => none)
 | _, _ => none
def ny (hp : SH) : List RA → List SC → Option (List E × List E)
 | [], [] => some ([], [])
 | k :: ks, s :: ss => (match sW hp k s, ny hp ks ss with | some (e, o), some (es, os) => some (e :: es, o ++ os) | _, _ => none)
 | _, _ => none
def qQ (hp : SH) (s : SC) (n : Nat) : Option (List SC) := match s with
 | .ptr l off => (match hp[l]? with
  | some ⟨_, _, .cells cs⟩ => some ((cs.drop off).take n)
  | _ => none)
 | _ => none
def wB : List SC → Option (List E × Nat × Nat)
 | [.ow lc, .ow lt] => some ([], lc, lt)
 | .int .i64 e lo hi :: r => if -9223372036854775808 ≤ lo ∧ hi ≤ 9223372036854775807 then (match wB r with | some (es, p) => some (e :: es, p) | none => none) else none
 | _ => none
def Hu (cs : List SC) : SC := match wB cs with | some (es, lc, lt) => .abs 6 [lc, lt] (aL es) | none => .kW
def Oi : E → Option (List E)
 | .nil => some []
 | .cons a r => (match Oi r with | some l => some (a :: l) | none => none)
 | _ => none
def N9 : SC → Option (List SC)
 | .abs 6 [lc, lt] A => (match Oi A with | some es => some (es.map (fun e => SC.int .i64 e (-9223372036854775808) 9223372036854775807) ++ [.ow lc, .ow lt]) | none => none)
 | _ => none
def iQ (hp : SH) : List iY → List SV → Option (List E × List E)
 | [], [] => some ([], [])
 | .one k :: sh, .c s :: vs => (match sW hp k s, iQ hp sh vs with | some (e, o), some (es, os) => some (e :: es, o ++ os) | _, _ => none)
 | .agg ks :: sh, .agg ss :: vs => (match ny hp ks ss, iQ hp sh vs with | some (e, o), some (es, os) => some (e ++ es, o ++ os) | _, _ => none)
 | .lH ks :: sh, .c s :: vs => (match N9 s with
  | some ss => (match ny hp ks ss, iQ hp sh vs with | some (e, o), some (es, os) => some (e ++ es, o ++ os) | _, _ => none)
  | none => none)
 | .ptr ks :: sh, .c s :: vs => (match qQ hp s ks.length with
  | some ss => (match ny hp ks ss, iQ hp sh vs with | some (e, o), some (es, os) => some (e ++ es, o ++ os) | _, _ => none)
  | none => none)
 | _, _ => none
def Oj (A : E) (j l : Nat) : nV → SC
 | .int k lo hi => .int k (if lo = hi then .ic lo else .app j A) lo hi
 | .bool => .bool (.app j A)
 | .di v => oM v
 | .str hi => .str (.app j A) hi
 | .row .. => .ow l
def zg (A : E) : Nat → Nat → List nV → List SC
 | _, _, [] => []
 | j, l, r :: rs => Oj A j l r :: zg A (j + 1) l rs
def Im (A : E) : Nat → Nat → List (Bool × List nV) → List (Bool × List SC)
 | _, _, [] => []
 | j, l, (b, rs) :: r => (b, zg A j l rs) :: Im A (j + rs.length) l r
def E1 (A : E) (j l : Nat) : BX → SV
 | .one r => .c (Oj A j l r)
 | .agg rs => .agg (zg A j l rs)
 | .eJ r => .eJ (Im A j l r)
def dH : Nat → List nV → List (Nat × TypeId × List Sk × Int)
 | _, [] => []
 | j, .row ty sh hi :: rs => (j, ty, sh, hi) :: dH (j + 1) rs
 | j, _ :: rs => dH (j + 1) rs
def kJ : Nat → List (Bool × List nV) → List (Nat × TypeId × List Sk × Int)
 | _, [] => []
 | j, (_, rs) :: l => dH j rs ++ kJ (j + rs.length) l
def fQ (j : Nat) : BX → List (Nat × TypeId × List Sk × Int)
 | .one r => dH j [r]
 | .agg rs => dH j rs
 | .eJ l => kJ j l
theorem E2 {s : Sk} {c : SC} {e : E} {v : Value} (h : Oh s c = some e) (hr : RS ρ ls c v) : iR s (ev ρ e).x.y = v ∧ dM s (ev ρ e).x.y := by
 unfold Oh at h
 split at h
 ·split at h
  ·rename_i hc
   obtain ⟨rfl, h1, h2⟩ := hc
   cases h
   obtain ⟨rfl, h3, h4⟩ := hr
   exact ⟨rfl, by show _ ≤ aa ρ _; omega, by show aa ρ _ ≤ _; omega⟩
  ·cases h
 ·cases h
  have hr : v = _ := hr
  subst hr
  exact ⟨rfl, trivial⟩
 ·cases h
  obtain ⟨rfl, h2⟩ := hr
  exact ⟨rfl, h2⟩
 ·split at h
  ·rename_i h1
   cases h
   have hr : v = _ := hr
   subst hr
   exact ⟨rfl, h1⟩
  ·cases h
 ·split at h
  ·rename_i h1
   cases h
   obtain ⟨s, rfl, h2, h3, h4⟩ := hr
   exact ⟨h2, s, h2, h3, by omega⟩
  ·cases h
 ·split at h
  ·rename_i h1
   cases h
   have hr : v = _ := hr
   subst hr
   exact ⟨rfl, _, rfl, rfl, h1⟩
  ·cases h
 ·cases h
theorem vd {all : List Sk} : ∀ {r : List Sk} {cs : List SC} {es : List E} {vs : List Value} {q : Nat}, mV all r cs = some es → ai (RS ρ ls) cs vs → r = all.drop q → q ≤ all.length →
 ∀ (k : Nat) (v : Value), vs[k]? = some v → ∃ s e, all[(q + k) % all.length]? = some s ∧ es[k]? = some e ∧ iR s (ev ρ e).x.y = v ∧ dM s (ev ρ e).x.y
 | [], [], es, vs, q, h, hr, hq, hle, k, v, hv => by
  cases vs with
  | nil => simp at hv
  | cons _ _ => exact hr.elim
 | [], c :: cs, es, u :: vs, q, h, hr, hq, hle, k, v, hv => by
  simp only [mV] at h
  have hql : all.length ≤ q := by
   have := congrArg List.length hq
   simp at this
   omega
  have hqe : q = all.length := by omega
  subst hqe
  split at h
  ·rename_i s r
   split at h
   ·rename_i e es' h1 h2
    cases h
    cases k with
    | zero =>
     simp at hv
     subst hv
     exact ⟨s, e, by simp, rfl, E2 h1 hr.1⟩
    | succ k =>
     simp at hv
     obtain ⟨s', e', g1, g2, g3⟩ := vd (q := 1) h2 hr.2 (by simp) (by simp) k v hv
     refine ⟨s', e', ?_, by simpa using g2, g3⟩
     rw [show (s :: r).length + (k + 1) = 1 + k + (s :: r).length by omega, Nat.add_mod_right]
     exact g1
   ·cases h
  ·cases h
 | s :: r, c :: cs, es, u :: vs, q, h, hr, hq, hle, k, v, hv => by
  simp only [mV] at h
  have hlt : q < all.length := by
   have := congrArg List.length hq
   simp at this
   omega
  have hs : all[q]? = some s := by
   have := congrArg (fun l => l[0]?) hq
   simp at this
   rw [← this]
  split at h
  ·rename_i e es' h1 h2
   cases h
   cases k with
   | zero =>
    simp at hv
    subst hv
    exact ⟨s, e, by rw [Nat.add_zero, Nat.mod_eq_of_lt hlt]; exact hs, rfl, E2 h1 hr.1⟩
   | succ k =>
    simp at hv
    have hr' : r = all.drop (q + 1) := by
     have := congrArg List.tail hq
     simpa using this
    obtain ⟨s', e', g1, g2, g3⟩ := vd (q := q + 1) h2 hr.2 hr' (by omega) k v hv
    exact ⟨s', e', by rw [show q + (k + 1) = q + 1 + k by omega]; exact g1, by simpa using g2, g3⟩
  ·cases h
 | _ :: _, [], _, _, _, h, _, _, _, _, _, _ => by cases h
 | _, _ :: _, _, [], _, _, hr, _, _, _, _, _ => hr.elim
theorem fD {l : Nat} {b : Bool} {ty : TypeId} {sh : List Sk} {R n : E} {hi : Int} (hh : aB ρ B w0 ls hp w) (hl : hp[l]? = some ⟨b, ty, .row sh R n hi⟩) : ∃ A c, ls[l]? = some (.slice A (aa ρ n).toNat c) ∧ 0 ≤ aa ρ n ∧ aa ρ n ≤ hi ∧ (aa ρ n).toNat ≤ c ∧ 0 < sh.length ∧ au sh (aU ρ R) (aa ρ n).toNat ∧
 (0 < (aa ρ n).toNat → ∃ a, A = some a ∧ ∀ j u, (aO sh (aU ρ R) (aa ρ n).toNat)[j]? = some u → w.cell? (a.add j) = some u) := by
 obtain ⟨A, c, h1, h2, h3, h4, h5, h6, h7, h8⟩ := hh.bA l _ hl
 refine ⟨A, c, h1, h2, h3, h4, h5, h6, fun h0 => ?_⟩
 cases b
 ·exact h8 rfl h0
 ·have hown := h7 rfl
  rcases hown.2 with ⟨e', _⟩ | ⟨g, cap, cur, e', _⟩
  ·injection e' with _ e'; omega
  ·injection e' with e'
   exact ⟨⟨g, 0, none⟩, e', fun j v hv => by
    subst e'
    exact hown.cells (g := g) rfl _ _ hv⟩
theorem lT {sh : List Sk} {cs : List SC} {es : List E} {vs : List Value} {n : Nat} (ht : mV sh [] cs = some es) (hr2 : ai (RS ρ ls) cs vs) (hl2 : vs.length = n * sh.length) :
 au sh (ev ρ (.eY (.bE sh.length (aL es)) (.ic n))).x.r n ∧ aO sh (ev ρ (.eY (.bE sh.length (aL es)) (.ic n))).x.r n = vs := by
 have get := vd (q := sh.length) ht hr2 (by simp) (Nat.le_refl _)
 have hev : ∀ (i p : Nat), i < n → p < sh.length → ∃ s e, sh[p]? = some s ∧ es[i * sh.length + p]? = some e ∧ iR s (ev ρ e).x.y = vs.getD (i * sh.length + p) undef ∧ dM s (ev ρ e).x.y := fun i p hi hp' => by
  have hlt : i * sh.length + p < vs.length := by
   rw [hl2]
   have := Nat.mul_le_mul_right sh.length (show i + 1 ≤ n from hi)
   rw [Nat.add_mul] at this; omega
  obtain ⟨s, e, g1, g2, g3, g4⟩ := get (i * sh.length + p) _ (List.getElem?_eq_getElem hlt)
  rw [Nat.add_comm, Nat.add_mod_right, Nat.mul_comm, Nat.mul_add_mod, Nat.mod_eq_of_lt hp'] at g1
  refine ⟨s, e, g1, g2, ?_, g4⟩
  rw [g3, List.getD_eq_getElem?_getD, List.getElem?_eq_getElem hlt]; rfl
 have hR : ∀ (i p : Nat) (e : E), es[i * sh.length + p]? = some e → (ev ρ (.eY (.bE sh.length (aL es)) (.ic n))).x.r i p = (ev ρ e).x.y := fun i p e he => by
  show ((ev ρ (aL es)).l.getD ((i : Int).toNat * sh.length + (p : Int).toNat) (xI 0)).y = _
  rw [bM, Int.toNat_natCast, Int.toNat_natCast, List.getD_eq_getElem?_getD]
  unfold aM
  rw [List.getElem?_map, he]; rfl
 refine ⟨fun i hi' => ?_, ?_⟩
 ·refine iy fun p s hs => ?_
  have hp' : p < sh.length := (List.getElem?_eq_some_iff.1 hs).1
  obtain ⟨s', e, g1, g2, _, g4⟩ := hev i p hi' hp'
  rw [hs] at g1; cases g1
  rw [Int.zero_add, hR i p e g2]; exact g4
 ·refine (ma hl2 fun i p s hi hs => ?_).symm
  have hp' : p < sh.length := (List.getElem?_eq_some_iff.1 hs).1
  obtain ⟨s', e, g1, g2, g3, _⟩ := hev i p hi hp'
  rw [hs] at g1; cases g1
  rw [hR i p e g2, g3]
  have hlt : i * sh.length + p < vs.length := by
   rw [hl2]
   have := Nat.mul_le_mul_right sh.length (show i + 1 ≤ n from hi)
   rw [Nat.add_mul] at this; omega
  rw [List.getD_eq_getElem?_getD, List.getElem?_eq_getElem hlt]; rfl
theorem j7 (sh : List Sk) (R : Int → Int → Y) (lo : Nat) : ∀ n, aO sh R (lo + n) = aO sh R lo ++ aO sh (fun j p => R (j + lo) p) n
 | 0 => by simp [aO]
 | n + 1 => by
  have e : ((lo + n : Nat) : Int) = (n : Int) + lo := by omega
  rw [show lo + (n + 1) = (lo + n) + 1 from rfl]
  simp only [aO]
  rw [j7 sh R lo n, List.append_assoc, e]
theorem nW {l z : Nat} {b : Bool} {ty : TypeId} {sh : List Sk} {R k lo n : E} {hk hi : Int} {v : Value} (hh : aB ρ B w0 ls hp w) (hl : hp[l]? = some ⟨b, ty, .row sh R k hk⟩) (hz : z = sh.length) (hr : RS ρ ls (.sl l z lo n hi) v) : gB w sh hi (ev ρ (.eY (.tj R lo) n)).x v := by
 obtain ⟨A, c, h1, h2, h3, h4, h5, h6, h7⟩ := fD hh hl
 obtain ⟨A0, N, C, A', c', g1, rfl, g3, g4, g5, g6, g7, g8⟩ := hr
 rw [g1] at h1
 injection h1 with h1
 injection h1 with e1 e2 e3
 subst e1 e2
 have eI : (ev ρ (.eY (.tj R lo) n)).x.i = aa ρ n := rfl
 have eR : (ev ρ (.eY (.tj R lo) n)).x.r = fun j p => aU ρ R (j + aa ρ lo) p := rfl
 have el : ((aa ρ lo).toNat : Int) = aa ρ lo := Int.toNat_of_nonneg g3
 unfold gB
 rw [eI, eR]
 refine ⟨A', c', rfl, g4, g5, g7, h5, fun i hi => ?_, fun h0 => ?_⟩
 ·have := h6 (i + (aa ρ lo).toNat) (by omega)
  rw [show ((i + (aa ρ lo).toNat : Nat) : Int) = (i : Int) + aa ρ lo by omega] at this
  exact this
 ·obtain ⟨a0, q1, q2⟩ := g8 h0
  subst q1
  obtain ⟨a1, q3, q4⟩ := h7 (by omega)
  cases q3
  refine ⟨_, q2, fun j u hu => ?_⟩
  have hd := j7 sh (aU ρ R) (aa ρ lo).toNat (aa ρ n).toNat
  rw [el] at hd
  have hju : (aO sh (aU ρ R) ((aa ρ lo).toNat + (aa ρ n).toNat))[(aa ρ lo).toNat * sh.length + j]? = some u := by
   rw [hd, List.getElem?_append_right (by rw [a7]; omega), a7, Nat.add_sub_cancel_left]
   exact hu
  have hju' : (aO sh (aU ρ R) (aa ρ k).toNat)[(aa ρ lo).toNat * sh.length + j]? = some u := by
   obtain ⟨m, hm⟩ : ∃ m, (aa ρ k).toNat = ((aa ρ lo).toNat + (aa ρ n).toNat) + m := ⟨(aa ρ k).toNat - ((aa ρ lo).toNat + (aa ρ n).toNat), by omega⟩
   rw [hm, j7, List.getElem?_append_left (List.getElem?_eq_some_iff.1 hju).1]
   exact hju
  rw [add_add, hz]
  exact q4 _ _ hju'
theorem jT {sh : List Sk} {hi : Int} {s : SC} {E' : E} {bg : List E} {v : Value} (h : jm hp sh hi s = some (E', bg)) (ho : ∀ e ∈ bg, al ρ e = true) (hh : aB ρ B w0 ls hp w) (hr : RS ρ ls s v) : gB w sh hi (ev ρ E').x v := by
 unfold jm at h
 split at h
 ·rename_i l
  split at h
  ·rename_i b ty sh' R n hi' hl
   split at h
   ·rename_i hle
    cases h
    obtain ⟨A, c, h1, h2, h3, h4, h5, h6, h7⟩ := fD hh hl
    obtain ⟨g1, _⟩ := hr
    rw [g1] at h1; cases h1
    have eI : (ev ρ (gq R n)).x.i = aa ρ n := gr.1
    have eR : (ev ρ (gq R n)).x.r = aU ρ R := gr.2
    have hrow := dW hle (aU ρ R) (aa ρ n).toNat
    unfold gB
    rw [eI, eR]
    exact ⟨A, c, rfl, h2, (iC ho h2 h3).2, h4, by rw [← eZ hle]; exact h5, hrow.1 h6, fun h0 => by rw [← hrow.2]; exact h7 h0⟩
   ·cases h
  ·rename_i b ty sz cs hl
   split at h
   ·rename_i hc
    obtain ⟨rfl, c2⟩ := hc
    split at h
    ·rename_i es ht
     cases h
     obtain ⟨hwr, h0, A, n, c, vs, e1, e2, e3, hown⟩ := hh.bA l _ hl
     obtain ⟨g1, _⟩ := hr
     rw [g1] at e1; cases e1
     have hlen := e3.len
     have hn : cs.length / sh.length = n := by rw [hlen, e2]; exact Nat.mul_div_cancel _ h0
     rw [hn] at c2 ⊢
     obtain ⟨t1, t2⟩ := lT (n := n) ht e3 e2
     have hnc : n ≤ c := by
      rcases hown.2 with ⟨e', _⟩ | ⟨g, cap, cur, e', _, _, h5, _⟩
      ·injection e' with _ e' e''; omega
      ·injection e' with _ _ e''; omega
     refine ⟨A, c, by simp [ev, dI, xI], by simp [ev, dI, xI], by simpa [ev, dI, xI] using c2, by simpa [ev, dI, xI] using hnc, h0, by simpa [ev, dI, xI] using t1, fun hpos => ?_⟩
     have hpos' : 0 < n := by simpa [ev, dI, xI] using hpos
     rcases hown.2 with ⟨e', e''⟩ | ⟨g, cap, cur, e', _⟩
     ·omega
     ·injection e' with e' _ _
      subst e'
      refine ⟨_, rfl, fun j u hu => nt hown ?_⟩
      have hu' : (aO sh (ev ρ (.eY (.bE sh.length (aL es)) (.ic n))).x.r n)[j]? = some u := by simpa [ev, dI, xI] using hu
      rwa [t2] at hu'
    ·cases h
   ·cases h
  ·cases h
 ·rename_i l z lo n hi'
  split at h
  ·rename_i b ty sh' R k hk hl
   split at h
   ·rename_i hc
    simp only [Bool.and_eq_true, beq_iff_eq] at hc
    obtain ⟨hz, hle⟩ := hc
    cases h
    have hre := nW hh hl hz hr
    obtain ⟨A, c, h1, h2, h3, h4, h5, h6, h7⟩ := hre
    have eI : (ev ρ (.eY (.tj R lo) n)).x.i = aa ρ n := rfl
    rw [eI] at h1 h2 h3 h4 h6 h7
    have hrow := dW hle (ev ρ (.eY (.tj R lo) n)).x.r (aa ρ n).toNat
    unfold gB
    rw [eI]
    exact ⟨A, c, h1, h2, (iC ho h2 h3).2, h4, by rw [← eZ hle]; exact h5, hrow.1 h6, fun h0 => by rw [← hrow.2]; exact h7 h0⟩
   ·cases h
  ·cases h
 ·split at h
  ·rename_i hc
   simp only [Bool.and_eq_true, decide_eq_true_eq] at hc
   cases h
   have hr : v = _ := hr
   subst hr
   exact ⟨none, 0, rfl, Int.le_refl _, hc.2, Nat.le_refl _, hc.1, fun i hi => by simp [ev, dI, xI] at hi, fun h0 => by simp [ev, dI, xI] at h0⟩
  ·cases h
 ·rename_i l off n cap
  split at h
  ·rename_i b ty cs hl
   split at h
   ·rename_i hc
    obtain ⟨c1, c2, c3⟩ := hc
    split at h
    ·rename_i es ht
     cases h
     obtain ⟨hn, a0, ha, rfl⟩ := hr
     obtain ⟨a', vs, e1, e2, e3, _⟩ := hh.bA l _ hl
     rw [ha] at e1; cases e1
     have hlen := e2.len
     obtain ⟨t1, t2⟩ := lT (n := n) ht ((e2.drop off).take (n * sh.length)) (by simp; omega)
     refine ⟨some (a0.add off), cap, by simp [ev, dI, xI], by simp [ev, dI, xI], by simpa [ev, dI, xI] using c3, by simpa [ev, dI, xI] using hn, c2, by simpa [ev, dI, xI] using t1, fun h0 => ⟨_, rfl, fun j u hu => ?_⟩⟩
     have hu' : (aO sh (ev ρ (.eY (.bE sh.length (aL es)) (.ic n))).x.r n)[j]? = some u := by simpa [ev, dI, xI] using hu
     rw [t2, List.getElem?_take] at hu'
     split at hu'
     ·rw [List.getElem?_drop] at hu'
      rw [add_add]; exact e3 _ _ hu'
     ·cases hu'
    ·cases h
   ·cases h
  ·cases h
 ·rename_i l k
  split at h
  ·rename_i b ty d lo h2 hl
   split at h
   ·rename_i hc
    cases h
    obtain ⟨u, us, g1, g2, g3⟩ := hh.bA l _ hl
    match us, g2, g3 with
    | [], _, g3 =>
    obtain ⟨arr, A, N, C, rfl, q1, q2, q3, q4, q5, q6, q7, q8⟩ := g3.2
    obtain ⟨vs, r1, r2⟩ := hr
    match vs, r1, r2 with
    | [x], r1, r2 =>
    have := g1.symm.trans r1.1
    cases this
    obtain ⟨A', N', C', s1, s2, s3, s4⟩ := r2
    rw [q1] at s1
    cases s1
    have s3 : 0 ≤ aa ρ k := s3
    have s4 : aa ρ k < N := s4
    have s2 : arr[(aa ρ k).toNat + 1]? = some v := s2
    obtain ⟨a0, b0, c0, _, t1, t2, _, t4⟩ := q8 (aa ρ k).toNat (by omega)
    rw [t2] at s2
    cases s2
    have hr : ∀ j p : Int, (ev ρ (.eY (.tj d (.mul (.ic 64) k)) (.ic 64))).x.r j p = (ev ρ d).x.r (j + 64 * aa ρ k) p := fun j p => rfl
    have hk : (((aa ρ k).toNat : Nat) : Int) = aa ρ k := by omega
    have q6 : (ev ρ d).x.i = 64 * (N : Int) := q6
    refine ⟨some b0, c0, rfl, by show (0 : Int) ≤ 64; decide, hc.2.2, t1, Nat.one_pos, fun i hi' => ⟨?_, trivial⟩, fun _ => ⟨b0, rfl, fun j u hu => ?_⟩⟩
    ·have hi' : i < 64 := hi'
     have := q7 ((i : Int) + 64 * aa ρ k) (by omega) (by omega)
     rw [show (ev ρ (.eY (.tj d (.mul (.ic 64) k)) (.ic 64))).x.r (i : Int) = (ev ρ d).x.r ((i : Int) + 64 * aa ρ k) from funext fun p => hr _ p]
     exact ⟨by omega, by omega⟩
    ·have hj : j < 64 := by
      have := (List.getElem?_eq_some_iff.1 hu).1
      rw [a7] at this
      have e : (ev ρ (.eY (.tj d (.mul (.ic 64) k)) (.ic 64))).x.i.toNat = 64 := rfl
      rw [e] at this
      simpa using this
     have h0 := cT (sh := [Sk.int .i64 lo h2]) (R := (ev ρ (.eY (.tj d (.mul (.ic 64) k)) (.ic 64))).x.r) (n := 64) (i := j) (j := 0) hj rfl
     have e0 : j * [Sk.int IntKind.i64 lo h2].length + 0 = j := by simp
     rw [e0] at h0
     have h1 : (aO [Sk.int .i64 lo h2] (ev ρ (.eY (.tj d (.mul (.ic 64) k)) (.ic 64))).x.r 64)[j]? = some u := hu
     rw [h1] at h0
     rw [Option.some.inj h0, t4 j hj, hk]
     show _ = some (Value.int .i64 ((ev ρ (.eY (.tj d (.mul (.ic 64) k)) (.ic 64))).x.r j 0).i)
     rw [hr, show (j : Int) + 64 * aa ρ k = 64 * aa ρ k + j by omega]
   ·cases h
  ·cases h
 ·cases h
theorem LR {e : E} : (ev ρ (fB e)).x = xI (aa ρ e) := by
 unfold fB
 split <;> simp [aa, ev, dI, xI]
theorem LS {e : E} : (ev ρ (qL e)).x = xB (al ρ e) := by
 unfold qL
 split <;> simp [al, ev, dB, xB]
theorem lU {k : RA} {s : SC} {E' : E} {bg : List E} {v : Value} (h : sW hp k s = some (E', bg)) (ho : ∀ e ∈ bg, al ρ e = true) (hh : aB ρ B w0 ls hp w) (hr : RS ρ ls s v) : Jw w (ev ρ E').x k v := by
 unfold sW at h
 split at h
 ·split at h
  ·rename_i hk
   subst hk
   cases h
   obtain ⟨r1, r2, r3⟩ := hr
   have := iC ho r2 r3
   rw [LR]
   exact ⟨r1, rfl, this.1, this.2⟩
  ·cases h
 ·cases h
  rw [LS]
  exact ⟨hr, rfl⟩
 ·split at h
  ·cases h
   obtain ⟨s, h1, h2, h3, h4⟩ := hr
   exact ⟨s, h1, h2, h3, by omega⟩
  ·cases h
 ·split at h
  ·rename_i h1
   cases h
   have hr : v = _ := hr
   subst hr
   exact ⟨_, rfl, rfl, rfl, h1⟩
  ·cases h
 ·exact jT h ho hh hr
 ·split at h
  ·rename_i b ty t'' e hl
   split at h
   ·rename_i hc
    obtain ⟨rfl, rfl⟩ := hc
    cases h
    obtain ⟨us, h1, h2⟩ := hr
    obtain ⟨u, us', g1, g2, g3⟩ := hh.bA _ _ hl
    cases us' with
    | cons _ _ => exact g2.elim
    | nil =>
     match us, h1 with
     | [x], h1 =>
      have := h1.1.symm.trans g1
      cases this
      exact HX g3 h2
   ·cases h
  ·cases h
 ·cases h
theorem j8 (hh : aB ρ B w0 ls hp w) : ∀ {ks : List RA} {ss : List SC} {es bg : List E} {vs : List Value}, ny hp ks ss = some (es, bg) → (∀ e ∈ bg, al ρ e = true) → ai (RS ρ ls) ss vs → Ba w ks (aM ρ es) vs ∧ es.length = ks.length
 | [], [], es, bg, [], h, _, _ => by cases h; exact ⟨trivial, rfl⟩
 | k :: ks, s :: ss, es, bg, v :: vs, h, ho, hr => by
  simp only [ny] at h
  split at h
  ·rename_i e o es' os' h1 h2
   cases h
   obtain ⟨i1, i2⟩ := j8 hh h2 (fun e he => ho e (by simp [he])) hr.2
   exact ⟨⟨lU h1 (fun e he => ho e (by simp [he])) hh hr.1, i1⟩, by simp [i2]⟩
  ·cases h
 | [], [], _, _, _ :: _, _, _, hr => hr.elim
 | [], _ :: _, _, _, _, h, _, _ => by cases h
 | _ :: _, [], _, _, _, h, _, _ => by cases h
 | _ :: _, _ :: _, _, _, [], _, _, hr => hr.elim
theorem w8 {s : SC} {n : Nat} {ss : List SC} {v : Value} (hh : aB ρ B w0 ls hp w) (h : qQ hp s n = some ss) (hr : RS ρ ls s v) : ∃ a us, v = .pointer (some a) ∧ (∀ (j : Nat) u, us[j]? = some u → w.cell? (a.add j) = some u) ∧ a.block < w.heap.size ∧ ai (RS ρ ls) ss us := by
 unfold qQ at h
 split at h
 ·rename_i l off
  split at h
  ·rename_i b ty cs hl
   cases h
   obtain ⟨a, h1, rfl⟩ := hr
   obtain ⟨a', vs, e1, e2, e3, e4, e5⟩ := hh.bA l _ hl
   have : some (Value.pointer (some a)) = some (.pointer (some a')) := h1.symm.trans e1
   cases this
   refine ⟨a.add off, (vs.drop off).take n, rfl, fun j u hu => ?_, ?_, (e2.drop off).take n⟩
   ·rw [List.getElem?_take] at hu
    split at hu
    ·rw [List.getElem?_drop] at hu
     rw [add_add]
     exact e3 _ _ hu
    ·cases hu
   ·rw [block_add]
    cases b with
    | true =>
     obtain ⟨b, rfl, _, hb⟩ := e4 rfl
     show b < _
     by_cases hlt : b < w.heap.size
     ·exact hlt
     ·simp [hlt] at hb
    | false =>
     exact e5 rfl
  ·cases h
 ·cases h
theorem E3 {ρ : Env} {ls : Ls} : ∀ {cs : List SC} {es : List E} {lc lt : Nat} {vs : List Value}, wB cs = some (es, lc, lt) → ai (RS ρ ls) cs vs →
 ∃ vc vt, vs = (es.map fun e => Value.int .i64 (aa ρ e)) ++ [vc, vt] ∧ (∀ e ∈ es, -9223372036854775808 ≤ aa ρ e ∧ aa ρ e ≤ 9223372036854775807) ∧ RS ρ ls (.ow lc) vc ∧ RS ρ ls (.ow lt) vt := fun {cs} => by
 fun_induction wB cs with
 | case1 lc lt =>
  intro es lc' lt' vs h hr
  cases h
  match vs, hr with
  | [a, b], hr => exact ⟨a, b, rfl, (fun _ he => by cases he), hr.1, hr.2.1⟩
 | case2 e lo hi r hc es' p hp ih =>
  intro es lc lt vs h hr
  cases h
  match vs, hr with
  | v :: vs, hr =>
   obtain ⟨vc, vt, rfl, h2, h3⟩ := ih hp hr.2
   obtain ⟨rfl, g1, g2⟩ := hr.1
   exact ⟨vc, vt, rfl, fun x hx => by
    rcases List.mem_cons.1 hx with rfl | hx
    ·omega
    ·exact h2 x hx, h3⟩
 | case3 => intro _ _ _ _ h; cases h
 | case4 => intro _ _ _ _ h; cases h
 | case5 => intro _ _ _ _ h; cases h
theorem Az {ρ : Env} {ls : Ls} {cs : List SC} {vs : List Value} (hr : ai (RS ρ ls) cs vs) : RS ρ ls (Hu cs) (.iface 46 (.agg vs.toArray)) := by
 unfold Hu
 split
 ·rename_i es lc lt h
  obtain ⟨vc, vt, rfl, h1, h2, h3⟩ := E3 h hr
  refine ⟨[vc, vt], ⟨h2.1, h3.1, trivial⟩, ?_, ?_, h2.2, h3.2⟩
  ·rw [bM]
   unfold aM
   rw [List.map_map]; rfl
  ·rw [bM]
   intro k hk
   obtain ⟨e, he, rfl⟩ := List.mem_map.1 hk
   exact h1 e he
 ·trivial
theorem LU {ρ : Env} : ∀ {A : E} {es : List E}, Oi A = some es → (ev ρ A).l = aM ρ es := fun {A} => by
 fun_induction Oi A with
 | case1 => intro es h; cases h; rfl
 | case2 a r l hl ih =>
  intro es h
  cases h
  show _ :: _ = _ :: _
  rw [ih hl]; rfl
 | case3 => intro es h; cases h
 | case4 => intro es h; cases h
theorem DQ {ρ : Env} {ls : Ls} {s : SC} {cs : List SC} {v : Value} (h : N9 s = some cs) (hr : RS ρ ls s v) : ∃ us : List Value, v = .iface 46 (.agg us.toArray) ∧ ai (RS ρ ls) cs us := by
 unfold N9 at h
 split at h
 ·rename_i lc lt A
  split at h
  ·rename_i es hA
   cases h
   obtain ⟨vs, h1, h2⟩ := hr
   match vs, h1, h2 with
   | [vc, vt], h1, h2 =>
    obtain ⟨rfl, h3, h4, h5⟩ := h2
    rw [LU hA] at h3 ⊢
    refine ⟨_, rfl, ?_⟩
    clear hA
    induction es with
    | nil => exact ⟨⟨h1.1, h4⟩, ⟨h1.2.1, h5⟩, trivial⟩
    | cons e r ih => exact ⟨⟨rfl, h3 _ List.mem_cons_self⟩, ih fun k hk => h3 k (List.mem_cons_of_mem _ hk)⟩
  ·cases h
 ·cases h
theorem dU (hh : aB ρ B w0 ls hp w) : ∀ {sh : List iY} {ss : List SV} {es bg : List E} {vs : List Value}, iQ hp sh ss = some (es, bg) → (∀ e ∈ bg, al ρ e = true) → ai (RV ρ ls) ss vs → bT w sh (aM ρ es) vs
 | [], [], es, bg, [], h, _, _ => by cases h; trivial
 | .one k :: sh, .c s :: ss, es, bg, v :: vs, h, ho, hr => by
  simp only [iQ] at h
  split at h
  ·rename_i e o es' os' h1 h2
   cases h
   exact ⟨lU h1 (fun e he => ho e (by simp [he])) hh hr.1, dU hh h2 (fun e he => ho e (by simp [he])) hr.2⟩
  ·cases h
 | .agg ks :: sh, .agg l :: ss, es, bg, v :: vs, h, ho, hr => by
  simp only [iQ] at h
  split at h
  ·rename_i e o es' os' h1 h2
   cases h
   obtain ⟨us, rfl, hu⟩ := hr.1
   obtain ⟨i1, i2⟩ := j8 hh h1 (fun e he => ho e (by simp [he])) hu
   have e1 : (aM ρ (e ++ es')).take ks.length = aM ρ e := by
    unfold aM
    rw [List.map_append, List.take_left' (by simpa using i2)]
   have e2 : (aM ρ (e ++ es')).drop ks.length = aM ρ es' := by
    unfold aM
    rw [List.map_append, List.drop_left' (by simpa using i2)]
   show (∃ us', _ ∧ Ba w ks _ us') ∧ bT w sh _ vs
   rw [e1, e2]
   exact ⟨⟨us, rfl, i1⟩, dU hh h2 (fun e he => ho e (by simp [he])) hr.2⟩
  ·cases h
 | .lH ks :: sh, .c s :: ss, es, bg, v :: vs, h, ho, hr => by
  simp only [iQ] at h
  split at h
  ·rename_i l hl
   split at h
   ·rename_i e o es' os' h1 h2
    cases h
    obtain ⟨us, rfl, hu⟩ := DQ hl hr.1
    obtain ⟨i1, i2⟩ := j8 hh h1 (fun e he => ho e (by simp [he])) hu
    have e1 : (aM ρ (e ++ es')).take ks.length = aM ρ e := by
     unfold aM
     rw [List.map_append, List.take_left' (by simpa using i2)]
    have e2 : (aM ρ (e ++ es')).drop ks.length = aM ρ es' := by
     unfold aM
     rw [List.map_append, List.drop_left' (by simpa using i2)]
    show (∃ us', _ ∧ Ba w ks _ us') ∧ bT w sh _ vs
    rw [e1, e2]
    exact ⟨⟨us, rfl, i1⟩, dU hh h2 (fun e he => ho e (by simp [he])) hr.2⟩
   ·cases h
  ·cases h
 | .ptr ks :: sh, .c s :: ss, es, bg, v :: vs, h, ho, hr => by
  simp only [iQ] at h
  split at h
  ·rename_i l hl
   split at h
   ·rename_i e o es' os' h1 h2
    cases h
    obtain ⟨a, us, rfl, hc, hb, hu⟩ := w8 hh hl hr.1
    obtain ⟨i1, i2⟩ := j8 hh h1 (fun e he => ho e (by simp [he])) hu
    have e1 : (aM ρ (e ++ es')).take ks.length = aM ρ e := by
     unfold aM
     rw [List.map_append, List.take_left' (by simpa using i2)]
    have e2 : (aM ρ (e ++ es')).drop ks.length = aM ρ es' := by
     unfold aM
     rw [List.map_append, List.drop_left' (by simpa using i2)]
    show (∃ a us', _ ∧ _ ∧ _ ∧ Ba w ks _ us') ∧ bT w sh _ vs
    rw [e1, e2]
    exact ⟨⟨a, us, rfl, hc, hb, i1⟩, dU hh h2 (fun e he => ho e (by simp [he])) hr.2⟩
   ·cases h
  ·cases h
 | .ptr _ :: _, [], _, _, _, h, _, _ => by cases h
 | .ptr _ :: _, .agg _ :: _, _, _, _, h, _, _ => by cases h
 | .ptr _ :: _, .eJ _ :: _, _, _, _, h, _, _ => by cases h
 | .ptr _ :: _, .c _ :: _, _, _, [], _, _, hr => hr.elim
 | .lH _ :: _, [], _, _, _, h, _, _ => by cases h
 | .lH _ :: _, .agg _ :: _, _, _, _, h, _, _ => by cases h
 | .lH _ :: _, .eJ _ :: _, _, _, _, h, _, _ => by cases h
 | .lH _ :: _, .c _ :: _, _, _, [], _, _, hr => hr.elim
 | [], [], _, _, _ :: _, _, _, hr => hr.elim
 | [], _ :: _, _, _, _, h, _, _ => by cases h
 | .one _ :: _, [], _, _, _, h, _, _ => by cases h
 | .agg _ :: _, [], _, _, _, h, _, _ => by cases h
 | .one _ :: _, .agg _ :: _, _, _, _, h, _, _ => by cases h
 | .one _ :: _, .eJ _ :: _, _, _, _, h, _, _ => by cases h
 | .agg _ :: _, .c _ :: _, _, _, _, h, _, _ => by cases h
 | .agg _ :: _, .eJ _ :: _, _, _, _, h, _, _ => by cases h
 | .one _ :: _, .c _ :: _, _, _, [], _, _, hr => hr.elim
 | .agg _ :: _, .agg _ :: _, _, _, [], _, _, hr => hr.elim
theorem E4 {A : E} {j l : Nat} {r : nV} {v : Value} {B' : Nat} (h : BZ B' w' (ρ.f j (ev ρ A).l) r v) (hl : ∀ ty sh hi, r = .row ty sh hi → ls[l]? = some v) : RS ρ ls (Oj A j l r) v := by
 cases r with
 | int k lo hi =>
  obtain ⟨h1, h2, h3⟩ := h
  have e4 : aa ρ (if lo = hi then .ic lo else .app j A) = (ρ.f j (ev ρ A).l).i := by
   split
   ·show lo = _; omega
   ·rfl
  exact ⟨by rw [e4]; exact h1, by rw [e4]; exact h2, by rw [e4]; exact h3⟩
 | bool => exact h
 | di u =>
  have h : v = u := h
  subst h
  exact ix ρ ls v
 | str hi => exact h
 | row ty sh hi => obtain ⟨⟨A', c, e, _⟩, _⟩ := h; exact ⟨hl ty sh hi rfl, A', _, c, e⟩
theorem po {A : E} {B' : Nat} : ∀ {rs : List nV} {j : Nat} {vs : List Value}, Jx B' w' (fun j => ρ.f j (ev ρ A).l) j rs vs →
 (∃ u : Value, (∀ x ∈ dH j rs, BZ B' w' (ρ.f x.1 (ev ρ A).l) (.row x.2.1 x.2.2.1 x.2.2.2) u) ∧ ((dH j rs).length ≤ 1 → ∀ l ls', (dH j rs ≠ [] → ls'[l]? = some u) → ai (RS ρ ls') (zg A j l rs) vs)) ∨ 1 < (dH j rs).length
 | [], _, [], _ => .inl ⟨undef, (fun x hx => by cases hx), fun _ _ ls' _ => trivial⟩
 | r :: rs, j, v :: vs, ⟨h1, h2⟩ => by
  rcases po h2 with ⟨u, g1, g2⟩ | g
  ·by_cases hr : ∃ ty sh hi, r = .row ty sh hi
   ·obtain ⟨ty, sh, hi, rfl⟩ := hr
    by_cases hz : dH (j + 1) rs = []
    ·refine .inl ⟨v, fun x hx => ?_, fun _ l ls' hl => ?_⟩
     ·simp only [dH, hz, List.mem_singleton] at hx
      subst hx; exact h1
     ·have hl' := hl (by simp [dH])
      exact ⟨E4 h1 (fun _ _ _ _ => hl'), g2 (by rw [hz]; simp) l ls' (fun e => (e hz).elim)⟩
    ·refine .inr ?_
     simp only [dH, List.length_cons]
     have := List.length_pos_iff.2 hz
     omega
   ·have e : dH j (r :: rs) = dH (j + 1) rs := by
     cases r <;> first | rfl | (exfalso; exact hr ⟨_, _, _, rfl⟩)
    rw [e]
    exact .inl ⟨u, g1, fun hle l ls' hl => ⟨E4 h1 (fun ty sh hi e' => (hr ⟨ty, sh, hi, e'⟩).elim), g2 hle l ls' hl⟩⟩
  ·refine .inr ?_
   cases r <;> simp only [dH, List.length_cons] <;> omega
 | [], _, _ :: _, h => h.elim
 | _ :: _, _, [], h => h.elim
theorem Bc {A : E} {B' : Nat} : ∀ {rs : List (Bool × List nV)} {j : Nat} {vs : List Value}, Cw B' w' (fun j => ρ.f j (ev ρ A).l) j rs vs →
 (∃ u : Value, (∀ x ∈ kJ j rs, BZ B' w' (ρ.f x.1 (ev ρ A).l) (.row x.2.1 x.2.2.1 x.2.2.2) u) ∧ ((kJ j rs).length ≤ 1 → ∀ l ls', (kJ j rs ≠ [] → ls'[l]? = some u) → ai (RE ρ ls') (Im A j l rs) vs)) ∨ 1 < (kJ j rs).length
 | [], _, [], _ => .inl ⟨undef, (fun x hx => by cases hx), fun _ _ ls' _ => trivial⟩
 | (b, rs) :: rest, j, v :: vs, h => by
  have one : (∃ us, Jx B' w' (fun j => ρ.f j (ev ρ A).l) j rs us ∧ ∀ l ls', ai (RS ρ ls') (zg A j l rs) us → RE ρ ls' (b, zg A j l rs) v) ∧ Cw B' w' (fun j => ρ.f j (ev ρ A).l) (j + rs.length) rest vs := by
   cases b with
   | true => obtain ⟨⟨us, e, h1⟩, h2⟩ := h; exact ⟨⟨us, h1, fun l ls' hx => ⟨us, e, hx⟩⟩, h2⟩
   | false =>
    match rs, h with
    | [r], ⟨h1, h2⟩ => exact ⟨⟨[v], ⟨h1, trivial⟩, fun l ls' hx => hx.1⟩, h2⟩
  obtain ⟨⟨us, h1, h1'⟩, h2⟩ := one
  have eq : kJ j ((b, rs) :: rest) = dH j rs ++ kJ (j + rs.length) rest := rfl
  rw [eq]
  rcases po h1 with ⟨u, g1, g2⟩ | g
  ·rcases Bc h2 with ⟨u', g1', g2'⟩ | g'
   ·by_cases hz : dH j rs = []
    ·rw [hz, List.nil_append]
     refine .inl ⟨u', g1', fun hle l ls' hl => ⟨h1' l ls' (g2 (by rw [hz]; simp) l ls' (fun e => (e hz).elim)), g2' hle l ls' hl⟩⟩
    ·by_cases hz' : kJ (j + rs.length) rest = []
     ·rw [hz', List.append_nil]
      exact .inl ⟨u, g1, fun hle l ls' hl => ⟨h1' l ls' (g2 hle l ls' hl), g2' (by rw [hz']; simp) l ls' (fun e => (e hz').elim)⟩⟩
     ·refine .inr ?_
      rw [List.length_append]
      have := List.length_pos_iff.2 hz
      have := List.length_pos_iff.2 hz'
      omega
   ·exact .inr (by rw [List.length_append]; omega)
  ·exact .inr (by rw [List.length_append]; omega)
 | [], _, _ :: _, h => h.elim
 | (true, _) :: _, _, [], h => by simp [Cw] at h
 | (false, _) :: _, _, [], h => by simp [Cw] at h
theorem E5 {A : E} {B' j : Nat} {res : BX} {v : Value} (h : w6 B' w' (fun j => ρ.f j (ev ρ A).l) j res v) (hle : (fQ j res).length ≤ 1) :
 ∃ u : Value, (∀ x ∈ fQ j res, BZ B' w' (ρ.f x.1 (ev ρ A).l) (.row x.2.1 x.2.2.1 x.2.2.2) u) ∧ ∀ l ls', (fQ j res ≠ [] → ls'[l]? = some u) → RV ρ ls' (E1 A j l res) v := by
 cases res with
 | one r =>
  have h1 : Jx B' w' (fun j => ρ.f j (ev ρ A).l) j [r] [v] := ⟨h, trivial⟩
  rcases po h1 with ⟨u, g1, g2⟩ | g
  ·exact ⟨u, g1, fun l ls' hl => (g2 hle l ls' hl).1⟩
  ·have : (dH j [r]).length ≤ 1 := hle
   omega
 | agg rs =>
  obtain ⟨us, e, h1⟩ := h
  rcases po h1 with ⟨u, g1, g2⟩ | g
  ·exact ⟨u, g1, fun l ls' hl => ⟨us, e, g2 hle l ls' hl⟩⟩
  ·have : (dH j rs).length ≤ 1 := hle
   omega
 | eJ rs =>
  obtain ⟨us, e, h1⟩ := h
  rcases Bc h1 with ⟨u, g1, g2⟩ | g
  ·exact ⟨u, g1, fun l ls' hl => ⟨us, e, g2 hle l ls' hl⟩⟩
  ·have : (kJ j rs).length ≤ 1 := hle
   omega
theorem mr {B B' : Nat} {e : TypeId} {sz : Nat} {v : Value} {n : Nat} {xs : List Value} (h : w.ownsRow B' e sz v n xs) (hb : B ≤ B') : w.ownsRow B e sz v n xs := by
 refine ⟨h.1, ?_⟩
 rcases h.2 with h1 | ⟨g, cap, cur, h1, h2, h3⟩
 ·exact .inl h1
 ·exact .inr ⟨g, cap, cur, h1, by omega, h3⟩
def LV (x : X) (l : Nat) : nV → SC
 | .int k _ _ => .int k (.ic x.i) x.i x.i
 | .bool => .bool (.bc x.b)
 | .di v => oM v
 | .str _ => .di x.v
 | .row .. => .ow l
def Bd (f : Nat → X) : Nat → Nat → List nV → List SC
 | _, _, [] => []
 | j, l, r :: rs => LV (f j) l r :: Bd f (j + 1) l rs
def E6 (f : Nat → X) : Nat → Nat → List (Bool × List nV) → List (Bool × List SC)
 | _, _, [] => []
 | j, l, (b, rs) :: r => (b, Bd f j l rs) :: E6 f (j + rs.length) l r
def E7 (f : Nat → X) (j l : Nat) : BX → SV
 | .one r => .c (LV (f j) l r)
 | .agg rs => .agg (Bd f j l rs)
 | .eJ r => .eJ (E6 f j l r)
def Rf : Sk → Y → SC
 | .int k _ _, y => .int k (.ic y.i) y.i y.i
 | .bool, y => .bool (.bc y.b)
 | .p8, y => .di y.v
 | .str _, y => .di y.v
def QI : List Sk → (Int → Y) → Int → List SC
 | [], _, _ => []
 | s :: r, f, j => Rf s (f j) :: QI r f (j + 1)
def G7 (sh : List Sk) (R : Int → Int → Y) : Nat → List SC
 | 0 => []
 | n + 1 => G7 sh R n ++ QI sh (R n) 0
def NI (f : Nat → X) (x : Nat × TypeId × List Sk × Int) : HE := ⟨true, x.2.1, .grow x.2.2.1.length (G7 x.2.2.1 (f x.1).r (f x.1).i.toNat)⟩
def NJ (A : E) (x : Nat × TypeId × List Sk × Int) : HE := ⟨true, x.2.1, .row x.2.2.1 (.app x.1 A) (.app x.1 A) x.2.2.2⟩
def ei (cf : a8) (c : br) (es : List E) (l : Nat) : SV × List HE :=
 match cf.F, jn es with
 | some F, some ds => (E7 (fun j => F j ds) c.fs l c.res, (fQ c.fs c.res).map (NI fun j => F j ds))
 | _, _ => (E1 (aL es) c.fs l c.res, (fQ c.fs c.res).map (NJ (aL es)))
theorem LW (s : Sk) (y : Y) : RS ρ ls (Rf s y) (iR s y) := by
 cases s with
 | int k lo hi => exact ⟨rfl, Int.le_refl _, Int.le_refl _⟩
 | bool => exact rfl
 | p8 => exact rfl
 | str hi => exact rfl
theorem E8 : ∀ (sh : List Sk) (f : Int → Y) (j : Int), ai (RS ρ ls) (QI sh f j) (gk sh f j)
 | [], _, _ => trivial
 | s :: r, f, j => ⟨LW s _, E8 r f _⟩
theorem uq (sh : List Sk) (R : Int → Int → Y) : ∀ n, ai (RS ρ ls) (G7 sh R n) (aO sh R n)
 | 0 => trivial
 | n + 1 => (uq sh R n).append (E8 sh _ _)
theorem ve {x : X} {A : E} {j l B' : Nat} {r : nV} {v : Value} (h : BZ B' w' x r v) (hs : RS ρ ls (Oj A j l r) v) : RS ρ ls (LV x l r) v := by
 cases r with
 | int k lo hi => exact ⟨h.1, Int.le_refl _, Int.le_refl _⟩
 | bool => exact h
 | di u => exact hs
 | str hi => obtain ⟨s, h1, h2, _⟩ := h; show v = x.v; rw [h1, h2]
 | row ty sh hi => exact hs
theorem qS {f : Nat → X} {A : E} {l B' : Nat} : ∀ {rs : List nV} {j : Nat} {vs : List Value}, Jx B' w' f j rs vs → ai (RS ρ ls) (zg A j l rs) vs → ai (RS ρ ls) (Bd f j l rs) vs
 | [], _, [], _, _ => trivial
 | r :: rs, j, v :: vs, h, hs => ⟨ve h.1 hs.1, qS h.2 hs.2⟩
 | [], _, _ :: _, h, _ => h.elim
 | _ :: _, _, [], h, _ => h.elim
theorem qT {f : Nat → X} {A : E} {l B' : Nat} : ∀ {rs : List (Bool × List nV)} {j : Nat} {vs : List Value}, Cw B' w' f j rs vs → ai (RE ρ ls) (Im A j l rs) vs → ai (RE ρ ls) (E6 f j l rs) vs
 | [], _, [], _, _ => trivial
 | (true, rs) :: r, j, v :: vs, h, hs => by
  obtain ⟨⟨us, e, h1⟩, h2⟩ := h
  obtain ⟨⟨us', e', s1⟩, s2⟩ := hs
  have : us' = us := by rw [e] at e'; injection e' with e'; exact (List.toArray_inj e').symm
  subst this
  exact ⟨⟨us', e, qS h1 s1⟩, qT h2 s2⟩
 | (false, [r]) :: rest, j, v :: vs, h, hs => ⟨ve h.1 hs.1, qT h.2 hs.2⟩
 | [], _, _ :: _, h, _ => h.elim
 | (true, _) :: _, _, [], h, _ => by simp [Cw] at h
 | (false, _) :: _, _, [], h, _ => by simp [Cw] at h
 | (false, []) :: _, _, _ :: _, h, _ => by simp [Cw] at h
 | (false, _ :: _ :: _) :: _, _, _ :: _, h, _ => by simp [Cw] at h
theorem tz {f : Nat → X} {A : E} {j l B' : Nat} {res : BX} {v : Value} (h : w6 B' w' f j res v) (hs : RV ρ ls (E1 A j l res) v) : RV ρ ls (E7 f j l res) v := by
 cases res with
 | one r => exact ve h hs
 | agg rs =>
  obtain ⟨us, e, h1⟩ := h
  obtain ⟨us', e', s1⟩ := hs
  have : us' = us := by rw [e] at e'; injection e' with e'; exact (List.toArray_inj e').symm
  subst this
  exact ⟨us', e, qS h1 s1⟩
 | eJ rs =>
  obtain ⟨us, e, h1⟩ := h
  obtain ⟨us', e', s1⟩ := hs
  have : us' = us := by rw [e] at e'; injection e' with e'; exact (List.toArray_inj e').symm
  subst this
  exact ⟨us', e, qT h1 s1⟩
theorem nR {N : Nat} {e : TypeId} {sz n : Nat} {v : Value} {xs : List Value} (h : w'.ownsRow N e sz v n xs) {b : Nat} (hb : bU (some v) = some b) : N ≤ b ∧ b < w'.heap.size := by
 rcases h.2 with ⟨e', _⟩ | ⟨g, cap, cur, e', h2, h3, _⟩
 ·subst e'; cases hb
 ·subst e'
  cases hb
  exact ⟨h2, (Array.getElem?_eq_some_iff.1 h3).1⟩
structure Io (ρ : Env) (cf : a8) (c : br) (es : List E) (N : Nat) (w : World) (u v : Value) : Prop where
 na : ∀ vs, u ≠ .agg vs
 ji : ∀ b, bU (some u) = some b → N ≤ b ∧ b < w.heap.size
 val : ∀ ls' l, ((ei cf c es l).2 ≠ [] → ls'[l]? = some u) → RV ρ ls' (ei cf c es l).1 v
 len : ∀ l, (ei cf c es l).2.length ≤ 1
 bA : ∀ l, ∀ x ∈ (ei cf c es l).2, x.live = true ∧ ∀ (ls' : Ls) (i B : Nat), B ≤ N → ls'[i]? = some u → aT ρ B w ls' i x
theorem lR {N : Nat} {c : br} {es : List E} {v : Value} (hF : ∀ F, cf.F = some F → F = ρ.f) (h : w6 N w' (fun j => ρ.f j (aM ρ es)) c.fs c.res v) (hle : (fQ c.fs c.res).length ≤ 1) :
 ∃ u : Value, Io ρ cf c es N w' u v := by
 have h' : w6 N w' (fun j => ρ.f j (ev ρ (aL es)).l) c.fs c.res v := by rw [bM]; exact h
 obtain ⟨u, r1, r2⟩ := E5 h' hle
 have hrow : ∀ x ∈ fQ c.fs c.res, BZ N w' (ρ.f x.1 (aM ρ es)) (.row x.2.1 x.2.2.1 x.2.2.2) u := fun x hx => by have := r1 x hx; rwa [bM] at this
 by_cases hz : fQ c.fs c.res = []
 ·refine ⟨undef, (fun vs e => by cases e), (fun b hb => by cases hb), fun ls' l _ => ?_, fun l => ?_, fun l x hx => ?_⟩
  ·have := r2 l ls' (fun e => (e hz).elim)
   unfold ei
   split
   ·rename_i F ds e1 e2
    obtain rfl := hF F e1
    have := tz h this
    rwa [ep e2] at this
   ·exact this
  ·unfold ei; split <;> simp [hz]
  ·unfold ei at hx; split at hx <;> simp [hz] at hx
 ·have hne : ∀ l, (ei cf c es l).2 ≠ [] := fun l => by unfold ei; split <;> simpa using hz
  obtain ⟨x0, hx0⟩ := List.exists_mem_of_ne_nil _ hz
  obtain ⟨⟨A, cc, e1, e2⟩, e3, e4, e5, e6, e7⟩ := hrow x0 hx0
  refine ⟨u, (fun vs e => by rw [e1] at e; cases e), (fun b hb => nR e7 hb), fun ls' l hl => ?_, fun l => ?_, fun l x hx => ?_⟩
  ·have := r2 l ls' (fun _ => hl (hne l))
   unfold ei
   split
   ·rename_i F ds q1 q2
    obtain rfl := hF F q1
    have := tz h this
    rwa [ep q2] at this
   ·exact this
  ·unfold ei; split <;> simpa using hle
  ·unfold ei at hx
   split at hx
   ·rename_i F ds q1 q2
    obtain rfl := hF F q1
    obtain ⟨y, hy, rfl⟩ := List.mem_map.1 hx
    obtain ⟨⟨A, cc, e1, e2⟩, e3, e4, e5, e6, e7⟩ := hrow y hy
    rw [ep q2] at e1 e2 e3 e4 e6 e7
    refine ⟨rfl, fun ls' i B hB hi => ⟨rfl, e5, A, _, cc, _, by rw [hi, e1], a7 _ _ _, uq _ _ _, ?_⟩⟩
    have := mr e7 hB
    rw [e1] at this
    exact this
   ·obtain ⟨y, hy, rfl⟩ := List.mem_map.1 hx
    have hy' := r1 y hy
    obtain ⟨⟨A, cc, e1, e2⟩, e3, e4, e5, e6, e7⟩ := hy'
    refine ⟨rfl, fun ls' i B hB hi => ⟨A, cc, by rw [hi, e1]; rfl, e3, e4, e2, e5, e6, fun _ => ?_, fun e => by cases e⟩⟩
    have := mr e7 hB
    rw [e1] at this
    exact this
theorem Io.Be {N : Nat} {c : br} {es : List E} {u v : Value} {w2 : World} {row : Option Nat} (h : Io ρ cf c es N w' u v) (hg : w'.grownBy w2 row) (hN : ∀ b, row = some b → N ≤ b) (hne : ∀ b, bU (some u) = some b → row ≠ some b) : Io ρ cf c es N w2 u v where
 na := h.na
 ji := fun b hb => ⟨(h.ji b hb).1, Nat.lt_of_lt_of_le (h.ji b hb).2 hg.size⟩
 val := h.val
 len := h.len
 bA := fun l x hx => ⟨(h.bA l x hx).1, fun ls' i B hB hi => ((h.bA l x hx).2 ls' i B hB hi).kept hg (fun b e => Nat.le_trans hB (hN b e)) (fun b hb => hne b (by have := hb.1; rw [hi] at this; exact this.of h.na))⟩
theorem Io.kept {N : Nat} {c : br} {es : List E} {u v : Value} {w2 : World} (h : Io ρ cf c es N w' u v) (hg : w'.grownBy w2 none) : Io ρ cf c es N w2 u v where
 na := h.na
 ji := fun b hb => ⟨(h.ji b hb).1, Nat.lt_of_lt_of_le (h.ji b hb).2 hg.size⟩
 val := h.val
 len := h.len
 bA := fun l x hx => ⟨(h.bA l x hx).1, fun ls' i B hB hi => ((h.bA l x hx).2 ls' i B hB hi).kept hg (fun _ e => by cases e) (fun _ _ e => by cases e)⟩
def jw : List br → FuncId → SH → List SV → Option (br × List E × List E)
 | [], _, _, _ => none
 | c :: r, f, hp, vs => if c.f == f then (match iQ hp c.args vs with | some (es, bg) => some (c, es, bg) | none => jw r f hp vs) else jw r f hp vs
def QJ : SV → Bool
 | .c (.sc _ _ _ _) => true
 | _ => false
def tA (cf : a8) (f : FuncId) (vs : List SV) : List br := if (cf.QF.any fun g => g == f) && vs.any QJ then [] else cf.Ap
theorem j9 {cf : a8} {f : FuncId} {vs : List SV} {c : br} (h : c ∈ tA cf f vs) : c ∈ cf.Ap := by
 unfold tA at h
 split at h
 ·cases h
 ·exact h
theorem fI : ∀ {l : List br} {f : FuncId} {vs : List SV} {c : br} {es bg : List E}, jw l f hp vs = some (c, es, bg) → c ∈ l ∧ c.f = f ∧ iQ hp c.args vs = some (es, bg)
 | [], _, _, _, _, _, h => by cases h
 | x :: r, f, vs, c, es, bg, h => by
  simp only [jw] at h
  split at h
  ·rename_i he
   split at h
   ·rename_i es' obs' hr
    cases h
    exact ⟨by simp, by simpa using he, hr⟩
   ·obtain ⟨h1, h2⟩ := fI h
    exact ⟨by simp [h1], h2⟩
  ·obtain ⟨h1, h2⟩ := fI h
   exact ⟨by simp [h1], h2⟩
def lQ (cf : a8) (pre : Option Nat) (es : List E) : Option (Nat × E) :=
 match pre with
 | none => none
 | some k => (match jn es with
  | some ds => if cf.Pb k ds then none else some (k, aL es)
  | none => some (k, aL es))
theorem gD {pre : Option Nat} {es : List E} (hb : ∀ k ds, cf.Pb k ds = true → ρ.p k ds) (h : match (generalizing := false) lQ cf pre es with | none => True | some (k, A) => ρ.p k (ev ρ A).l) : match (generalizing := false) pre with | none => True | some k => ρ.p k (aM ρ es) := by
 cases pre with
 | none => trivial
 | some k =>
  show ρ.p k (aM ρ es)
  simp only [lQ] at h
  cases hc : jn es with
  | none => rw [hc] at h; simpa [bM] using h
  | some ds =>
   rw [hc] at h
   simp only at h
   by_cases hp : cf.Pb k ds = true
   ·rw [ep hc]; exact hb k ds hp
   ·rw [if_neg hp] at h; simpa [bM] using h
def Rg (p : PV) : SV := .c (.ptr p.1 p.2)
theorem E9 {ρ : Env} {ls : Ls} : ∀ {ps : List PV} {fs : List Value}, ai (RP ls) ps fs → ai (RV ρ ls) (ps.map Rg) fs
 | [], [], _ => trivial
 | _ :: _, _ :: _, h => ⟨h.1, E9 h.2⟩
 | [], _ :: _, h => h.elim
 | _ :: _, [], h => h.elim
def qU (P : Program) (cf : a8) (tm : aw) (hp : SH) (G : E) (o : Oper) : Option (SV × Ow) :=
 match zd P cf tm hp G o with
 | some (v, bg) => some (v, ⟨bg, none⟩)
 | none => match o.op with
  | .call { callee := .value f, args, .. } => (match cA tm G f with
   | some (.c (.fn f [] [])) => (match kS tm G args.toList with
    | some vs => (match mq cf.vV f vs with
     | some (c, es) => some (LQ cf es c, ⟨[], lQ cf c.pre es⟩)
     | none => (match jw (tA cf f vs) f hp vs with
      | some (c, es, bg) => if (fQ c.fs c.res).isEmpty then some ((ei cf c es 0).1, ⟨bg, lQ cf c.pre es⟩) else none
      | none => none))
    | none => none)
   | some (.c (.fn f (b :: bs) [])) => (match kS tm G args.toList with
    | some vs => (match jw (tA cf f vs) f hp ((b :: bs).map Rg ++ vs) with
     | some (c, es, bg) => if (fQ c.fs c.res).isEmpty then some ((ei cf c es 0).1, ⟨bg, lQ cf c.pre es⟩) else none
     | none => none)
    | none => none)
   | _ => none)
  | _ => none
def mu (P : Program) (cf : a8) (tm : aw) (hp : SH) (G : E) (o : Oper) : Option (SV × Ow) := match qU P cf tm hp G o with
 | some r => some r
 | none => cf.mX tm hp G o
def gy (P : Program) (K : Value → World → Prop) : Result Next → Prop
 | .ok (.value u) w' => K u w'
 | .ok .skip w' => K undef w'
 | .ok (.enter f args) w' => Calls P f args w' (fun e w'' => ∃ v, e = .returned v ∧ K v w'')
 | _ => False
def Env.sw (ρ : Env) (x : Nat → X) (k : Nat → Option Loop) (o : Gh) : Env := { ρ with x := x, k := k, o := o }
structure aP (P : Program) (ρ : Env) (cf : a8) : Prop where
 eq : LJ P cf
 bL : cf.bL = ρ.g
 F : ∀ F, cf.F = some F → F = ρ.f
 mixed : P.follows .mixedOrders = true
 fns : ∀ f fn, lA cf.fns f = some fn → P.funcs[f]? = some fn ∧ (fn.name == "runtime.NumGoroutine") = false
 pK : ∀ c ∈ cf.vV ++ cf.pJ, fZ P ρ c
 fn : ∀ c ∈ cf.vV ++ cf.pJ, ∃ fn, P.funcs[c.f]? = some fn ∧ fn.body.isSome = true ∧ (fn.name == "runtime.NumGoroutine") = false
 mW : ∀ c ∈ cf.Ap, aZ P ρ c ∧ ∃ fn, P.funcs[c.f]? = some fn ∧ fn.body.isSome = true ∧ (fn.name == "runtime.NumGoroutine") = false := by intro c hc; exact absurd hc List.not_mem_nil
 pb : ∀ k ds, cf.Pb k ds = true → ρ.p k ds := by intro k ds h; cases h
 mX : ∀ (x : Nat → X) (k : Nat → Option Loop) (ob : Gh) (tm : aw) (hp : SH) (G : E) (o : Oper) (s : SV) (ow : Ow), cf.mX tm hp G o = some (s, ow) → ∀ (B : Nat) (w0 w : World) (ls : Ls) (a : Act), ow.Ok (ρ.sw x k ob) → aX (ρ.sw x k ob) ls tm a → al (ρ.sw x k ob) G = true → aB (ρ.sw x k ob) B w0 ls hp w →
  bH P (Below w.heap.size w) w (RV (ρ.sw x k ob) ls s) ((execOp a.eval o).run P w) := by intro x k ob tm hp G o s ow h; cases h
 mY : ∀ (x : Nat → X) (k : Nat → Option Loop) (ob : Gh) (tm : aw) (hp : SH) (G : E) (o : Oper) (s : SV) (hp' : SH) (ow : Ow), cf.mY tm hp G o = some (s, hp', ow) → ∀ (B : Nat) (w0 w : World) (ls : Ls) (a : Act), ow.Ok (ρ.sw x k ob) → aX (ρ.sw x k ob) ls tm a → al (ρ.sw x k ob) G = true → aB (ρ.sw x k ob) B w0 ls hp w →
  gy P (fun z w' => ∃ ls', Ext ls ls' ∧ aB (ρ.sw x k ob) B w0 ls' hp' w' ∧ RV (ρ.sw x k ob) ls' s z) ((execOp a.eval o).run P w) := by intro x k ob tm hp G o s hp' ow h; cases h
def a8.q (cf : a8) : a8 := { cf with vV := cf.vV ++ cf.pJ, pJ := [] }
theorem aP.q {ρ : Env} {cf : a8} (h : aP P ρ cf) : aP P ρ cf.q where
 eq := h.eq
 bL := h.bL
 F := h.F
 mixed := h.mixed
 fns := h.fns
 pK := fun c hc => h.pK c (by simpa [a8.q] using hc)
 fn := fun c hc => h.fn c (by simpa [a8.q] using hc)
 mW := h.mW
 pb := h.pb
 mX := h.mX
 mY := h.mY
theorem aP.nT {ρ : Env} {cf : a8} (h : aP P ρ cf) (x : Nat → X) : aP P { ρ with x := x } cf := ⟨h.eq, h.bL, h.F, h.mixed, h.fns, h.pK, h.fn, h.mW, h.pb, h.mX, h.mY⟩
theorem aP.Nz {ρ : Env} {cf : a8} (h : aP P ρ cf) (o : Gh) : aP P { ρ with o := o } cf := ⟨h.eq, h.bL, h.F, h.mixed, h.fns, h.pK, h.fn, h.mW, h.pb, h.mX, h.mY⟩
theorem bd {f : FuncId} {fn : Func} {args : Array Value} (hf : P.funcs[f]? = some fn) (hb : fn.body.isSome = true) (hn : (fn.name == "runtime.NumGoroutine") = false) (w : World) :
 (callFunc f args).run P w = .ok (.enter f args) w := by
 have hb' : fn.body.isNone = false := by cases h : fn.body <;> simp_all
 simp only [callFunc, Sem.run_bind, run_program, Result.andThen_ok, hf, hn, hb', Bool.false_eq_true, if_false]
 rfl
theorem cE.up {gs : List (Nat × List Value)} {n m : Nat} (h : cE gs n w) (hm : n ≤ m) : cE gs m w := fun x hx => ⟨Nat.lt_of_lt_of_le (h x hx).1 hm, (h x hx).2⟩
theorem vf {o : Oper} {s : SV} {ow : Ow} (h : qU P cf tm hp G o = some (s, ow)) (hc : aP P ρ cf) (hp' : ow.Ok ρ) (hr : aX ρ ls tm a) (hG : al ρ G = true) (hh : aB ρ B w0 ls hp w) :
 bH P (Below w.heap.size w) w (RV ρ ls s) ((execOp a.eval o).run P w) := by
 unfold qU at h
 split at h
 ·rename_i v bg hv
  cases h
  obtain ⟨z, hz, hz'⟩ := Cr hv hc.eq hc.bL hp'.1 hr hG hh
  rw [hz]; exact ⟨rfl, hz'⟩
 ·split at h
  ·rename_i f args at_ ho
   split at h
   ·rename_i f' hf
    split at h
    ·rename_i vs hvs
     split at h
     ·rename_i c es hcf
      cases h
      obtain ⟨hmem, rfl, hes⟩ := lu hcf
      obtain ⟨fs, cs, he, h1, h2⟩ := aj hf hr hG
      have hfs : fs = [] := by cases fs with | nil => rfl | cons _ _ => exact h1.elim
      have hcs : cs = [] := by cases cs with | nil => rfl | cons _ _ => exact h2.elim
      subst hfs hcs
      obtain ⟨hargs, hran⟩ := Ij hes (b8 hr hG hvs)
      have hpre : (match c.pre with | none => True | some k => ρ.p k (aM ρ es)) := gD hc.pb hp'.2
      have hmem' : c ∈ cf.vV ++ cf.pJ := List.mem_append_left _ hmem
      have k2 := hc.pK c hmem' (aM ρ es) w (hh.cS.up hh.size) hran hpre
      obtain ⟨fn, f1, f2, f3⟩ := hc.fn c hmem'
      have e : args.map a.eval = (args.toList.map a.eval).toArray := by rw [← Array.toList_map]
      have hrun : (execOp a.eval o).run P w = .ok (.enter c.f (args.toList.map a.eval).toArray) w := by
       simp only [execOp, ho, resolve, he, Deferred.ofValue, Sem.run_bind, Sem.run_pure, Result.andThen_ok, invoke, e]
       rw [bd f1 f2 f3]
       simp
      rw [hrun]
      refine ⟨rfl, ?_⟩
      rw [hargs]
      exact k2.mono fun e' w' ⟨v, g1, g2, g3⟩ => ⟨v, g1, Il hc.F g2, g3⟩
     ·split at h
      ·rename_i c es bg hcf
       split at h
       ·rename_i hz
        cases h
        obtain ⟨hmem, rfl, hes⟩ := fI hcf
        have hmem := j9 hmem
        obtain ⟨fs, cs, he, h1, h2⟩ := aj hf hr hG
        have hfs : fs = [] := by cases fs with | nil => rfl | cons _ _ => exact h1.elim
        have hcs : cs = [] := by cases cs with | nil => rfl | cons _ _ => exact h2.elim
        subst hfs hcs
        have hargs := dU hh hes hp'.1 (b8 hr hG hvs)
        obtain ⟨k1, fn, f1, f2, f3⟩ := hc.mW c hmem
        have k2 := k1 (aM ρ es) _ w (hh.cS.up hh.size) hargs (gD hc.pb hp'.2)
        have e : args.map a.eval = (args.toList.map a.eval).toArray := by rw [← Array.toList_map]
        have hrun : (execOp a.eval o).run P w = .ok (.enter c.f (args.toList.map a.eval).toArray) w := by
         simp only [execOp, ho, resolve, he, Deferred.ofValue, Sem.run_bind, Sem.run_pure, Result.andThen_ok, invoke, e]
         rw [bd f1 f2 f3]
         simp
        rw [hrun]
        refine ⟨rfl, ?_⟩
        exact k2.mono fun e' w' ⟨v, g1, g2, g3⟩ => by
         have hz' : fQ c.fs c.res = [] := by simpa using hz
         obtain ⟨u, ⟨_, _, q2, _, _⟩⟩ := lR (cf := cf) hc.F g2 (by rw [hz']; simp)
         exact ⟨v, g1, q2 ls 0 (fun e => by exfalso; apply e; unfold ei; split <;> simp [hz']), g3⟩
       ·cases h
      ·cases h
    ·cases h
   ·rename_i f' b bs hf
    split at h
    ·rename_i vs hvs
     split at h
     ·rename_i c es bg hcf
      split at h
      ·rename_i hz
       cases h
       obtain ⟨hmem, rfl, hes⟩ := fI hcf
       have hmem := j9 hmem
       obtain ⟨fs, cs, he, h1, h2⟩ := aj hf hr hG
       have hcs : cs = [] := by cases cs with | nil => rfl | cons _ _ => exact h2.elim
       subst hcs
       have hargs := dU hh hes hp'.1 ((E9 (ρ := ρ) h1).append (b8 hr hG hvs))
       obtain ⟨k1, fn, f1, f2, f3⟩ := hc.mW c hmem
       have k2 := k1 (aM ρ es) _ w (hh.cS.up hh.size) hargs (gD hc.pb hp'.2)
       have e : args.map a.eval = (args.toList.map a.eval).toArray := by rw [← Array.toList_map]
       have hrun : (execOp a.eval o).run P w = .ok (.enter c.f (fs ++ args.toList.map a.eval).toArray) w := by
        simp only [execOp, ho, resolve, he, Deferred.ofValue, Sem.run_bind, Sem.run_pure, Result.andThen_ok, invoke, e]
        rw [bd f1 f2 f3]
        simp
       rw [hrun]
       refine ⟨rfl, ?_⟩
       exact k2.mono fun e' w' ⟨v, g1, g2, g3⟩ => by
        have hz' : fQ c.fs c.res = [] := by simpa using hz
        obtain ⟨u, ⟨_, _, q2, _, _⟩⟩ := lR (cf := cf) hc.F g2 (by rw [hz']; simp)
        exact ⟨v, g1, q2 ls 0 (fun e => by exfalso; apply e; unfold ei; split <;> simp [hz']), g3⟩
      ·cases h
     ·cases h
    ·cases h
   ·cases h
  ·cases h
theorem aB.LX {N : Nat} (hh : aB ρ B w0 ls hp w) {u : Value} {x : HE} (hx : aT ρ B w (ls ++ [u]) ls.length x) (hN : ∀ (i : Nat) (y : HE) (b : Nat), hp[i]? = some y → bn ρ ls i y b → b < N) (hna : ∀ vs, u ≠ .agg vs) (hu : ∀ b, bU (some u) = some b → N ≤ b) : aB ρ B w0 (ls ++ [u]) (hp ++ [x]) w := by
 have hu : ∀ b, eK (some u) b → N ≤ b := fun b hb => hu b (hb.of hna)
 refine hh.join hx (fun _ b hb i y hy hy' => ?_) (fun b hb i y hy ly hbl => ?_)
 ·have := hN i y b hy hy'
  have := hu b hb
  omega
 ·have h1 := hN i y b hy (bn.ik ly hbl)
  have hb := hb.1
  rw [show (ls ++ [u])[ls.length]? = some u by simp] at hb
  have := hu b hb
  omega
theorem aB.result {N : Nat} {c : br} {es : List E} {v : Value} (hc : aP P ρ cf) (hh : aB ρ B w0 ls hp w) (hBN : B ≤ N) (hN : ∀ (i : Nat) (y : HE) (b : Nat), hp[i]? = some y → bn ρ ls i y b → b < N) (h : w6 N w (fun j => ρ.f j (aM ρ es)) c.fs c.res v) (hle : (fQ c.fs c.res).length ≤ 1) :
 ∃ ls', Ext ls ls' ∧ aB ρ B w0 ls' (hp ++ (ei cf c es hp.length).2) w ∧ RV ρ ls' (ei cf c es hp.length).1 v := by
 obtain ⟨u, ⟨q0, q1, q2, q3, q4⟩⟩ := lR (cf := cf) hc.F h hle
 cases hr : (ei cf c es hp.length).2 with
 | nil => exact ⟨ls, Ext.refl _, by simpa using hh, q2 ls hp.length (fun e => (e hr).elim)⟩
 | cons x r =>
  have hr0 : r = [] := by
   have := q3 hp.length
   rw [hr] at this
   exact List.eq_nil_of_length_eq_zero (by simpa using this)
  subst hr0
  obtain ⟨l1, l2⟩ := q4 hp.length x (by rw [hr]; simp)
  exact ⟨ls ++ [u], Ext.snoc ls u, hh.LX (l2 _ _ _ hBN (by simp)) hN q0 (fun b hb => (q1 b hb).1), q2 _ _ (fun _ => by rw [← hh.len]; simp)⟩
theorem bH.cls {C D : World → Prop} {U : Value → Prop} (h : ∀ w', C w' → D w') {r : Result Next} (hr : bH P C w U r) : bH P D w U r := by
 cases r with
 | ok n w' =>
  cases n <;> simp only [bH] at hr ⊢
  case value u => exact hr
  case skip => exact hr
  case enter f args => exact ⟨hr.1, hr.2.mono fun e w'' ⟨v, h1, h2, h3⟩ => ⟨v, h1, h2, h _ h3⟩⟩
 | halt x w' => exact hr
theorem nX {o : Oper} {s : SV} {ow : Ow} (h : mu P cf tm hp G o = some (s, ow)) (hc : aP P ρ cf) (hp' : ow.Ok ρ) (hr : aX ρ ls tm a) (hG : al ρ G = true) (hh : aB ρ B w0 ls hp w) :
 bH P (Below w.heap.size w) w (RV ρ ls s) ((execOp a.eval o).run P w) := by
 unfold mu at h
 split at h
 ·rename_i r hr'
  cases h
  exact vf hr' hc hp' hr hG hh
 ·exact hc.mX ρ.x ρ.k ρ.o tm hp G o s ow h B w0 w ls a hp' hr hG hh
theorem zh {o : Oper} {s : SV} {ow : Ow} (h : mu P cf tm hp G o = some (s, ow)) (hc : aP P ρ cf) (hp' : ow.Ok ρ) (hr : aX ρ ls tm a) (hG : al ρ G = true) (hh : aB ρ B w0 ls hp w) :
 bH P (aB ρ B w0 ls hp) w (RV ρ ls s) ((execOp a.eval o).run P w) := (nX h hc hp' hr hG hh).cls fun _ hb => hh.calls hb
end
end Vc
end Go.Proofs.YtpmfkelglmgddaaGreatDoor
