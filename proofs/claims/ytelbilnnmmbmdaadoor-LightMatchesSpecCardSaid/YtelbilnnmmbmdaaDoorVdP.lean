/- Contracts with lists, out of walks. -/
import Derived.Test.YtelbilnnmmbmdaaDoorVdW
namespace Go.Proofs.YtelbilnnmmbmdaaDoor
namespace Vc
open Go Go.RowKit
set_option linter.unusedVariables false
theorem andI {a b : Prop} (h : a) (k : a → b) : a ∧ b := ⟨h, k h⟩
def rwSet (r : Int → Int → Y) (i o : Int) (e : X) : Int → Int → Y := fun j p => if j = i ∧ p = o then e.y else r j p
def rwTab (sz : Nat) (es : List X) : Int → Int → Y := fun j p => (es.getD (j.toNat * sz + p.toNat) (xI 0)).y
def rwRep (es : List X) : Int → Int → Y := fun _ p => (es.getD p.toNat (xI 0)).y
def rwCat (r : Int → Int → Y) (n : Int) (s : Int → Int → Y) : Int → Int → Y := fun j p => if j < n then r j p else s (j - n) p
def rwSh (r : Int → Int → Y) (lo : Int) : Int → Int → Y := fun j p => r (j + lo) p
def rwCpy (r : Int → Int → Y) (lo m : Int) (s : Int → Int → Y) (slo : Int) : Int → Int → Y := fun j p => if lo ≤ j ∧ j < lo + m then s (j - lo + slo) p else r j p
def mkX (r : Int → Int → Y) (n : Int) : X := ⟨n, false, .nilIface, r⟩
def selX (r : Int → Int → Y) (i o : Int) : X := ⟨(r i o).i, (r i o).b, (r i o).v, r0⟩
def iteX (c : Bool) (a b : X) : X := ⟨bif c then a.i else b.i, bif c then a.b else b.b, bif c then a.v else b.v, bif c then a.r else b.r⟩
def eqEl : List Sk → (Int → Y) → (Int → Y) → Int → Prop
 | [], _, _, _ => True
 | .int .. :: r, f, g, j => (f j).i = (g j).i ∧ eqEl r f g (j + 1)
 | .bool :: r, f, g, j => (f j).b = (g j).b ∧ eqEl r f g (j + 1)
 | .opq :: r, f, g, j => (f j).v = (g j).v ∧ eqEl r f g (j + 1)
 | .str _ :: r, f, g, j => ((f j).v = (g j).v ∧ (f j).i = (g j).i) ∧ eqEl r f g (j + 1)
theorem eqEl_v : ∀ {sh : List Sk} {f g : Int → Y} {j : Int}, eqEl sh f g j → elV sh f j = elV sh g j ∧ (elOk sh g j → elOk sh f j)
 | [], _, _, _, _ => ⟨rfl, fun h => h⟩
 | .int k lo hi :: r, f, g, j, h => by
  obtain ⟨h1, h2⟩ := h
  obtain ⟨i1, i2⟩ := eqEl_v h2
  exact ⟨by simp only [elV, skV]; rw [h1, i1], fun hh => ⟨by have := hh.1; simp only [skOk] at this ⊢; rw [h1]; exact this, i2 hh.2⟩⟩
 | .bool :: r, f, g, j, h => by
  obtain ⟨h1, h2⟩ := h
  obtain ⟨i1, i2⟩ := eqEl_v h2
  exact ⟨by simp only [elV, skV]; rw [h1, i1], fun hh => ⟨trivial, i2 hh.2⟩⟩
 | .opq :: r, f, g, j, h => by
  obtain ⟨h1, h2⟩ := h
  obtain ⟨i1, i2⟩ := eqEl_v h2
  exact ⟨by simp only [elV, skV]; rw [h1, i1], fun hh => ⟨by have := hh.1; simp only [skOk] at this ⊢; rw [h1]; exact this, i2 hh.2⟩⟩
 | .str hi :: r, f, g, j, h => by
  obtain ⟨⟨h1, h1'⟩, h2⟩ := h
  obtain ⟨i1, i2⟩ := eqEl_v h2
  exact ⟨by simp only [elV, skV]; rw [h1, i1], fun hh => ⟨by have := hh.1; simp only [skOk] at this ⊢; rw [h1, h1']; exact this, i2 hh.2⟩⟩
def skKd : Sk → Sk → Bool
 | .int k _ _, .int k' _ _ => decide (k = k')
 | .bool, .bool => true
 | .opq, .opq => true
 | .str _, .str _ => true
 | _, _ => false
def shKd : List Sk → List Sk → Bool
 | [], [] => true
 | a :: r, b :: s => skKd a b && shKd r s
 | _, _ => false
theorem skKd_v {a b : Sk} (h : skKd a b = true) (y : Y) : skV a y = skV b y := by
 cases a <;> cases b <;> simp [skKd] at h
 ·subst h; rfl
 all_goals rfl
theorem shKd_v : ∀ {a b : List Sk}, shKd a b = true → a.length = b.length ∧ ∀ (f : Int → Y) (j : Int), elV a f j = elV b f j
 | [], [], _ => ⟨rfl, fun _ _ => rfl⟩
 | x :: r, y :: s, h => by
  simp only [shKd, Bool.and_eq_true] at h
  obtain ⟨i1, i2⟩ := shKd_v h.2
  exact ⟨by simp [i1], fun f j => by simp only [elV]; rw [skKd_v h.1, i2]⟩
 | [], _ :: _, h => by cases h
 | _ :: _, [], h => by cases h
theorem shKd_row {a b : List Sk} (h : shKd a b = true) (R : Int → Int → Y) : ∀ n, rowV a R n = rowV b R n
 | 0 => rfl
 | n + 1 => by simp only [rowV]; rw [shKd_row h R n, (shKd_v h).2]
def rowEq (sh : List Sk) (x : X) (R : Int → Int → Y) (n hi : Int) : Prop := x.i = n ∧ n ≤ hi ∧ ∀ i : Nat, (i : Int) < n → eqEl sh (x.r i) (R i) 0
def rpEq (ρ : Env) (hp : SH) (x : X) : RPt → SC → Prop
 | .int k lo hi, .int k' e _ _ => if k = k' then ((ev ρ e).x.i = x.i ∧ lo ≤ x.i ∧ x.i ≤ hi) else False
 | .bool, .bool e => (evP ρ e ↔ x.b = true)
 | .cst (.int k n), .int k' e _ _ => if k = k' then (ev ρ e).x.i = n else False
 | .str hi, .cst (.string s) => x = xS s ∧ (s.size : Int) ≤ hi
 | .str hi, .str e _ => ((ev ρ e).x.v = x.v ∧ (ev ρ e).x.i = x.i) ∧ x.i ≤ hi
 | .row ty sh hi, .ow l => (match hp[l]? with
  | some ⟨true, ty', .row sh' R n _⟩ => if Nat.beq ty ty' && shLe sh' sh then rowEq sh x (evR ρ R) (evI ρ n) hi else if Nat.beq ty ty' && shKd sh' sh then rowEq sh x (evR ρ R) (evI ρ n) hi ∧ RowOk sh x.r (evI ρ n).toNat else False
  | some ⟨true, ty', .grow sz cs⟩ => if Nat.beq ty ty' && Nat.beq sz sh.length then (match tabE sh [] cs with
   | some es => rowEq sh x (evR ρ (.rtab sh.length (argE es))) (cs.length / sz : Nat) hi
   | none => False) else False
  | _ => False)
 | .row _ sh hi, .cst (.slice none 0 0) => if decide (0 < sh.length) then x.i = 0 ∧ 0 ≤ hi else False
 | _, _ => False
def rpEqL (ρ : Env) (hp : SH) (f : Nat → X) : Nat → List RPt → List SC → Prop
 | _, [], [] => True
 | j, [r], [s] => rpEq ρ hp (f j) r s
 | j, r :: rs, s :: ss => rpEq ρ hp (f j) r s ∧ rpEqL ρ hp f (j + 1) rs ss
 | _, _, _ => False
def rpEqT (ρ : Env) (hp : SH) (f : Nat → X) : Nat → List (Bool × List RPt) → List (Bool × List SC) → Prop
 | _, [], [] => True
 | j, (true, rs) :: l, (true, ss) :: m => rpEqL ρ hp f j rs ss ∧ rpEqT ρ hp f (j + rs.length) l m
 | j, (false, [r]) :: l, (false, [s]) :: m => rpEq ρ hp (f j) r s ∧ rpEqT ρ hp f (j + 1) l m
 | _, _, _ => False
def resEqR (ρ : Env) (hp : SH) (f : Nat → X) (j : Nat) : RRs → SV → Prop
 | .one r, .c s => rpEq ρ hp (f j) r s
 | .agg rs, .agg ss => rpEqL ρ hp f j rs ss
 | .tup l, .tup m => rpEqT ρ hp f j l m
 | _, _ => False
section
variable {P : Program} {ρ : Env} {B : Nat} {w0 w : World} {ls : Ls} {hp : SH} {cf : Cfg} {k : Nat → Option Loop}
theorem rpEq_ok {x : X} {r : RPt} {s : SC} {v : Value} (h : rpEq ρ hp x r s) (hh : HOk (ρ.wk k) B w0 ls hp w) (hr : RS ρ ls s v) : rpR B w x r v := by
 unfold rpEq at h
 split at h
 ·split at h
  ·rename_i hk
   subst hk
   obtain ⟨h1, h2, h3⟩ := h
   exact ⟨by rw [hr.1, ← h1], h2, h3⟩
  ·exact h.elim
 ·rename_i e
  have hr' : v = .bool (evB ρ e) := hr
  show v = .bool x.b
  rw [hr']
  congr 1
  have h' := (evP_iff ρ e).symm.trans h
  show (ev ρ e).x.b = x.b
  cases h1 : (ev ρ e).x.b <;> cases h2 : x.b
  ·rfl
  ·rw [h1, h2] at h'; exact absurd (h'.2 rfl) (by simp)
  ·rw [h1, h2] at h'; exact absurd (h'.1 rfl) (by simp)
  ·rfl
 ·split at h
  ·rename_i hk
   subst hk
   show v = _
   rw [hr.1, ← h]
  ·exact h.elim
 ·rename_i hi s
  obtain ⟨h1, h2⟩ := h
  have hr' : v = .string s := hr
  exact ⟨s, hr', by rw [h1]; rfl, by rw [h1]; rfl, h2⟩
 ·rename_i hi e hi'
  obtain ⟨⟨h1, h2⟩, h3⟩ := h
  obtain ⟨s, g1, g2, g3, g4⟩ := hr
  have g3' : (ev ρ e).x.i = s.size := g3
  exact ⟨s, g1, by rw [← h1]; exact g2, by rw [← h2]; exact g3', by omega⟩
 ·rename_i ty sh hi l
  split at h
  ·rename_i ty' sh' R n hi' hl
   split at h
   ·rename_i hc
    simp only [Bool.and_eq_true] at hc
    obtain ⟨c1, c2⟩ := hc
    have c1 := Nat.eq_of_beq_eq_true c1
    subst c1
    obtain ⟨h1, h2, h3⟩ := h
    obtain ⟨A, c, e1, e2, e3, e4, e5, e6, e7, _⟩ := hh.ent l _ hl
    rw [evI_wk] at e1 e2 e3 e4 e6 e7
    rw [evR_wk] at e6 e7
    obtain ⟨g1, _⟩ := hr
    rw [g1] at e1; cases e1
    have hrow := shLe_row c2 (evR ρ R) (evI ρ n).toNat
    have hel : ∀ i : Nat, i < (evI ρ n).toNat → elV sh (x.r i) 0 = elV sh (evR ρ R i) 0 := fun i hi => (eqEl_v (h3 i (by omega))).1
    have hok : RowOk sh x.r (evI ρ n).toNat := fun i hi => (eqEl_v (h3 i (by omega))).2 (hrow.1 e6 i hi)
    show (∃ A' c', _ ∧ x.i.toNat ≤ c') ∧ _
    rw [h1]
    refine ⟨⟨A, c, rfl, e4⟩, e2, h2, by rw [← shLe_len c2]; exact e5, hok, ?_⟩
    have := e7 rfl
    rw [hrow.2, ← rowV_congr hel, shLe_len c2] at this
    exact this
   ·split at h
    ·rename_i hc
     simp only [Bool.and_eq_true] at hc
     obtain ⟨c1, c2⟩ := hc
     have c1 := Nat.eq_of_beq_eq_true c1
     subst c1
     obtain ⟨⟨h1, h2, h3⟩, hok⟩ := h
     obtain ⟨A, c, e1, e2, e3, e4, e5, e6, e7, _⟩ := hh.ent l _ hl
     rw [evI_wk] at e1 e2 e3 e4 e6 e7
     rw [evR_wk] at e6 e7
     obtain ⟨g1, _⟩ := hr
     rw [g1] at e1; cases e1
     have hrow := shKd_row c2 (evR ρ R) (evI ρ n).toNat
     have hel : ∀ i : Nat, i < (evI ρ n).toNat → elV sh (x.r i) 0 = elV sh (evR ρ R i) 0 := fun i hi => (eqEl_v (h3 i (by omega))).1
     show (∃ A' c', _ ∧ x.i.toNat ≤ c') ∧ _
     rw [h1]
     refine ⟨⟨A, c, rfl, e4⟩, e2, h2, by rw [← (shKd_v c2).1]; exact e5, hok, ?_⟩
     have := e7 rfl
     rw [hrow, ← rowV_congr hel, (shKd_v c2).1] at this
     exact this
    ·exact h.elim
  ·rename_i ty' sz cs hl
   split at h
   ·rename_i hc
    simp only [Bool.and_eq_true] at hc
    obtain ⟨c1, c2⟩ := hc
    have c1 := Nat.eq_of_beq_eq_true c1
    have c2 := Nat.eq_of_beq_eq_true c2
    subst c1 c2
    split at h
    ·rename_i es ht
     obtain ⟨h1, h2, h3⟩ := h
     obtain ⟨_, h0, A, n, c, vs, e1, e2, e3, hown⟩ := hh.ent l _ hl
     obtain ⟨g1, _⟩ := hr
     rw [g1] at e1; cases e1
     have hn : cs.length / sh.length = n := by rw [e3.len, e2]; exact Nat.mul_div_cancel _ h0
     rw [hn] at h1 h2 h3
     obtain ⟨t1, t2⟩ := tab_row (n := n) ht e3 e2
     have hev : (ev (ρ.wk k) (.mkr (.rtab sh.length (argE es)) (.ic n))).x.r = evR ρ (.rtab sh.length (argE es)) := by rw [ev_wk]; rfl
     rw [hev] at t1 t2
     have hel : ∀ i : Nat, i < n → elV sh (x.r i) 0 = elV sh (evR ρ (.rtab sh.length (argE es)) i) 0 := fun i hi => (eqEl_v (h3 i (by omega))).1
     have hok : RowOk sh x.r n := fun i hi => (eqEl_v (h3 i (by omega))).2 (t1 i hi)
     have hnc : n ≤ c := by
      rcases hown.2 with ⟨e', _⟩ | ⟨g, cap, cur, e', _, _, h5, _⟩
      ·injection e' with _ e' e''; omega
      ·injection e' with _ _ e''; omega
     show (∃ A' c', _ ∧ x.i.toNat ≤ c') ∧ _
     rw [h1]
     simp only [Int.toNat_natCast]
     refine ⟨⟨A, c, rfl, hnc⟩, by omega, h2, h0, hok, ?_⟩
     rw [rowV_congr hel, t2]
     exact hown
    ·exact h.elim
   ·exact h.elim
  ·exact h.elim
 ·split at h
  ·rename_i hc
   have hr' : v = _ := hr
   subst hr'
   obtain ⟨h1, h2⟩ := h
   show (∃ A' c', _ ∧ x.i.toNat ≤ c') ∧ _
   rw [h1]
   exact ⟨⟨none, 0, rfl, Nat.le_refl _⟩, Int.le_refl _, h2, of_decide_eq_true hc, fun i hi => by simp at hi, World.ownsRow_nil w B _ _⟩
  ·exact h.elim
 ·exact h.elim
theorem rpEqL_ok {f : Nat → X} (hh : HOk (ρ.wk k) B w0 ls hp w) : ∀ {rs : List RPt} {j : Nat} {ss : List SC} {vs : List Value}, rpEqL ρ hp f j rs ss → All2 (RS ρ ls) ss vs → rpL B w f j rs vs
 | [], _, [], [], _, _ => trivial
 | [r], _, [s], [v], h, hr => ⟨rpEq_ok h hh hr.1, trivial⟩
 | r :: r' :: rs, j, s :: s' :: ss, v :: vs, h, hr => ⟨rpEq_ok h.1 hh hr.1, rpEqL_ok hh (rs := r' :: rs) (ss := s' :: ss) h.2 hr.2⟩
 | [], _, [], _ :: _, _, hr => hr.elim
 | [], _, _ :: _, _, h, _ => h.elim
 | [_], _, [], _, h, _ => h.elim
 | _ :: _ :: _, _, [], _, h, _ => h.elim
 | [_], _, [_], [], _, hr => hr.elim
 | [_], _, [_], _ :: _ :: _, _, hr => hr.2.elim
 | [_], j, _ :: s' :: ss, _, h, _ => by simp [rpEqL] at h
 | _ :: _ :: _, _, [_], _, h, _ => by simp [rpEqL] at h
 | _ :: _ :: _, _, _ :: _ :: _, [], _, hr => hr.elim
theorem rpEqT_ok {f : Nat → X} (hh : HOk (ρ.wk k) B w0 ls hp w) : ∀ {l : List (Bool × List RPt)} {j : Nat} {m : List (Bool × List SC)} {vs : List Value}, rpEqT ρ hp f j l m → All2 (RE ρ ls) m vs → rpT B w f j l vs
 | [], _, [], [], _, _ => trivial
 | (true, rs) :: l, j, (true, ss) :: m, v :: vs, h, hr => by
  obtain ⟨⟨us, rfl, h1⟩, h2⟩ := hr
  exact ⟨⟨us, rfl, rpEqL_ok hh h.1 h1⟩, rpEqT_ok hh h.2 h2⟩
 | (false, [r]) :: l, j, (false, [s]) :: m, v :: vs, h, hr => ⟨rpEq_ok h.1 hh hr.1, rpEqT_ok hh h.2 hr.2⟩
 | [], _, [], _ :: _, _, hr => hr.elim
 | [], _, _ :: _, _, h, _ => h.elim
 | _ :: _, _, [], _, h, _ => by simp [rpEqT] at h
 | (true, _) :: _, _, (false, _) :: _, _, h, _ => by simp [rpEqT] at h
 | (false, _) :: _, _, (true, _) :: _, _, h, _ => by simp [rpEqT] at h
 | (true, _) :: _, _, (true, _) :: _, [], _, hr => hr.elim
 | (false, [_]) :: _, _, (false, [_]) :: _, [], _, hr => hr.elim
 | (false, []) :: _, _, (false, _) :: _, _, h, _ => by simp [rpEqT] at h
 | (false, _ :: _ :: _) :: _, _, (false, _) :: _, _, h, _ => by simp [rpEqT] at h
 | (false, [_]) :: _, _, (false, []) :: _, _, h, _ => by simp [rpEqT] at h
 | (false, [_]) :: _, _, (false, _ :: _ :: _) :: _, _, h, _ => by simp [rpEqT] at h
theorem resEqR_ok {f : Nat → X} {j : Nat} {r : RRs} {s : SV} {v : Value} (h : resEqR ρ hp f j r s) (hh : HOk (ρ.wk k) B w0 ls hp w) (hr : RV ρ ls s v) : resR B w f j r v := by
 unfold resEqR at h
 split at h
 ·exact rpEq_ok h hh hr
 ·obtain ⟨us, rfl, h1⟩ := hr; exact ⟨us, rfl, rpEqL_ok hh h h1⟩
 ·obtain ⟨us, rfl, h1⟩ := hr; exact ⟨us, rfl, rpEqT_ok hh h h1⟩
 ·exact h.elim
end
def ctrR (f : Nat → X) (j : Nat) (r : RRs) : Env → Fm → Prop
 | _, .tru => True
 | _, .fls => False
 | ρ, .and a b => ctrR f j r ρ a ∧ ctrR f j r ρ b
 | ρ, .imp g a => evP ρ g → ctrR f j r ρ a
 | ρ, .tst e => evP ρ e
 | ρ, .pre k A => ρ.p k (ev ρ A).l
 | ρ, .leaf v hp => resEqR ρ hp f j r v
 | ρ, .all m a => ∀ y : X, ctrR f j r (ρ.setx m y) a
 | ρ, .impP k A a => ρ.p k (ev ρ A).l → ctrR f j r ρ a
 | ρ, .rowH sh R n hi a => (0 ≤ evI ρ n ∧ evI ρ n ≤ hi ∧ RowOk sh (evR ρ R) (evI ρ n).toNat) → ctrR f j r ρ a
theorem ctrR_holds {f : Nat → X} {j : Nat} {r : RRs} {B : Nat} {w0 : World} : ∀ {F : Fm} {ρ : Env}, ctrR f j r ρ F → F.holds (fun ρ => LeafOk ρ B w0 fun e w' => ∃ v, e = .returned v ∧ resR B w' f j r v ∧ Below w0.heap.size w0 w') ρ
 | .tru, _, _ => trivial
 | .fls, _, h => h
 | .and _ _, _, h => ⟨ctrR_holds h.1, ctrR_holds h.2⟩
 | .imp g a, _, h => fun hg => ctrR_holds (F := a) (h hg)
 | .tst _, _, h => h
 | .pre _ _, _, h => h
 | .leaf v hp, ρ, h => fun k ls w' val hh hr => ⟨val, rfl, resEqR_ok (ρ := ρ) (ls := ls) h hh (by rw [RV_wk] at hr; exact hr), by have := hh.below; rwa [hh.base] at this⟩
 | .all m a, ρ, h => fun y => ctrR_holds (F := a) (h y)
 | .impP _ _ a, _, h => fun hp => ctrR_holds (F := a) (h hp)
 | .rowH _ _ _ _ a, _, h => fun hp => ctrR_holds (F := a) (h hp)
def raS (j l : Nat) : RA → SC
 | .int k lo hi => .int k (if lo = hi then .ic lo else .var j) lo hi
 | .bool => .bool (.var j)
 | .str hi => .str (.var j) hi
 | .row .. => .ow l
def RA.isRow : RA → Bool
 | .row .. => true
 | _ => false
def RA.nx (k : RA) (l : Nat) : Nat := if k.isRow then l + 1 else l
def raSs : List RA → Nat → Nat → List SC
 | [], _, _ => []
 | k :: ks, j, l => raS j l k :: raSs ks (j + 1) (k.nx l)
def nRows : List RA → Nat
 | [] => 0
 | k :: ks => (if k.isRow then 1 else 0) + nRows ks
def rshS : List RSh → Nat → Nat → List SV
 | [], _, _ => []
 | .one k :: sh, j, l => .c (raS j l k) :: rshS sh (j + 1) (k.nx l)
 | .agg ks :: sh, j, l => .agg (raSs ks j l) :: rshS sh (j + ks.length) (l + nRows ks)
 | .ptr ks :: sh, j, l => .c (.ptr (l + nRows ks) 0) :: rshS sh (j + ks.length) (l + nRows ks + 1)
def raHp (j : Nat) : RA → SH
 | .row sh hi => [⟨false, 0, .row sh (.var j) (.var j) hi⟩]
 | _ => []
def raHps : List RA → Nat → SH
 | [], _ => []
 | k :: ks, j => raHp j k ++ raHps ks (j + 1)
def rshHq : List RSh → Nat → Nat → SH
 | [], _, _ => []
 | .one k :: sh, j, l => raHp j k ++ rshHq sh (j + 1) (k.nx l)
 | .agg ks :: sh, j, l => raHps ks j ++ rshHq sh (j + ks.length) (l + nRows ks)
 | .ptr ks :: sh, j, l => (raHps ks j ++ [⟨false, 0, .cells (raSs ks j l)⟩]) ++ rshHq sh (j + ks.length) (l + nRows ks + 1)
def rshHp (sh : List RSh) (j : Nat) : SH := rshHq sh j 0
def raXs : List RA → Ds → Prop
 | [], _ => True
 | k :: ks, d :: ds => raX d k ∧ raXs ks ds
 | _, [] => False
def rshX : List RSh → Ds → Prop
 | [], ds => ds = []
 | .one k :: sh, d :: ds => raX d k ∧ rshX sh ds
 | .one _ :: _, [] => False
 | .agg ks :: sh, ds => raXs ks (ds.take ks.length) ∧ ks.length ≤ ds.length ∧ rshX sh (ds.drop ks.length)
 | .ptr ks :: sh, ds => raXs ks (ds.take ks.length) ∧ ks.length ≤ ds.length ∧ rshX sh (ds.drop ks.length)
def flatR : List RSh → List RA
 | [] => []
 | .one k :: sh => k :: flatR sh
 | .agg ks :: sh => ks ++ flatR sh
 | .ptr ks :: sh => ks ++ flatR sh
def raXf : List RA → Ds → Prop
 | [], ds => ds = []
 | _ :: _, [] => False
 | k :: ks, d :: ds => raX d k ∧ raXf ks ds
theorem raXf_app : ∀ {ks ks' : List RA} {ds : Ds}, raXs ks (ds.take ks.length) → ks.length ≤ ds.length → raXf ks' (ds.drop ks.length) → raXf (ks ++ ks') ds
 | [], _, ds, _, _, h => h
 | _ :: _, _, [], _, h, _ => by simp at h
 | k :: ks, ks', d :: ds, h1, h2, h3 => ⟨h1.1, raXf_app (ks := ks) h1.2 (by simpa using h2) h3⟩
theorem rshX_flat : ∀ {sh : List RSh} {ds : Ds}, rshX sh ds → raXf (flatR sh) ds
 | [], _, h => h
 | .one k :: sh, d :: ds, h => ⟨h.1, rshX_flat (sh := sh) h.2⟩
 | .one _ :: _, [], h => h.elim
 | .agg ks :: sh, ds, h => raXf_app h.1 h.2.1 (rshX_flat (sh := sh) h.2.2)
 | .ptr ks :: sh, ds, h => raXf_app h.1 h.2.1 (rshX_flat (sh := sh) h.2.2)
section
variable {P : Program} {ρ : Env} {w : World} {cf : Cfg}
def RdOnly (ρ : Env) (w : World) (ls : Ls) (hp : SH) : Prop := ls.length = hp.length ∧ ∀ (i : Nat) (x : HE), hp[i]? = some x → x.wr = false ∧ EntOk ρ w.heap.size w ls i x
theorem EntOk.at_ext {ls ls' : Ls} {i i' : Nat} {sh : List Sk} {R n : E} {hi : Int} {ty : TypeId} (h : EntOk ρ w.heap.size w ls i ⟨false, ty, .row sh R n hi⟩) (e : ls'[i']? = ls[i]?) : EntOk ρ w.heap.size w ls' i' ⟨false, ty, .row sh R n hi⟩ := by
 obtain ⟨A, c, h1, h2⟩ := h
 exact ⟨A, c, e.trans h1, h2⟩
def ArgH (ρ : Env) (w : World) (n : Nat) (ls : Ls) (hp : SH) : Prop := ls.length = hp.length ∧ ∀ (pre post : Ls), pre.length = n → ∀ (i : Nat) (x : HE), hp[i]? = some x → x.wr = false ∧ EntOk ρ w.heap.size w (pre ++ ls ++ post) (n + i) x
theorem ArgH.app {n : Nat} {ls ls' : Ls} {hp hp' : SH} (h : ArgH ρ w n ls hp) (h' : ArgH ρ w (n + ls.length) ls' hp') : ArgH ρ w n (ls ++ ls') (hp ++ hp') := by
 refine ⟨by simp [h.1, h'.1], fun pre post hn i x hx => ?_⟩
 rw [List.getElem?_append] at hx
 split at hx
 ·have := h.2 pre (ls' ++ post) hn i x hx
  rwa [show pre ++ ls ++ (ls' ++ post) = pre ++ (ls ++ ls') ++ post by simp [List.append_assoc]] at this
 ·rename_i hlt
  have := h'.2 (pre ++ ls) post (by rw [List.length_append, hn]) _ x hx
  rw [show pre ++ ls ++ ls' ++ post = pre ++ (ls ++ ls') ++ post by simp [List.append_assoc], h.1, show n + hp.length + (i - hp.length) = n + i by omega] at this
  exact this
theorem ArgH.hok {ls : Ls} {hp : SH} (h : ArgH ρ w 0 ls hp) (hg : GlobOk ρ.g w.heap.size w) : HOk ρ w.heap.size w ls hp w :=
 ⟨Below.refl _ _, rfl, h.1, hg, fun i x hx => by
   have := (h.2 [] [] rfl i x hx).2
   simpa using this, fun i j x y b hx _ lx _ _ => by
   have := (h.2 [] [] rfl i x hx).1
   simp [HE.live, this] at lx⟩
def raLs (v : Value) (k : RA) : Ls := if k.isRow then [v] else []
theorem ra_ok {d : X} {j : Nat} {k : RA} {v : Value} (h : raR w d k v) (hx : ρ.x j = d) : raX d k ∧ (∀ n, ArgH ρ w n (raLs v k) (raHp j k)) ∧ ∀ (pre post : Ls), RS ρ (pre ++ raLs v k ++ post) (raS j pre.length k) v := by
 cases k with
 | int k lo hi =>
  obtain ⟨h1, h2, h3, h4⟩ := h
  refine ⟨⟨h2, h3, h4⟩, fun n => ⟨rfl, fun _ _ _ i x hx => by simp [raHp] at hx⟩, fun pre post => ?_⟩
  have e : evI ρ (if lo = hi then .ic lo else .var j) = d.i := ckI_ev hx h3 h4
  exact ⟨by rw [e]; exact h1, by rw [e]; exact h3, by rw [e]; exact h4⟩
 | bool =>
  obtain ⟨h1, h2⟩ := h
  refine ⟨h2, fun n => ⟨rfl, fun _ _ _ i x hx => by simp [raHp] at hx⟩, fun pre post => ?_⟩
  show v = .bool (ρ.x j).b
  rw [hx]; exact h1
 | str hi =>
  obtain ⟨s, h1, h2, h3, h4⟩ := h
  refine ⟨⟨s, h2, h3, h4⟩, fun n => ⟨rfl, fun _ _ _ i x hx => by simp [raHp] at hx⟩, fun pre post => ⟨s, h1, ?_, ?_, h4⟩⟩
  ·show (ρ.x j).v = _; rw [hx]; exact h2
  ·show (ρ.x j).i = _; rw [hx]; exact h3
 | row sh hi =>
  obtain ⟨A, c, h1, h2, h3, h4, h5, h6, h7⟩ := h
  have eI : evI ρ (.var j) = d.i := congrArg X.i hx
  have eR : evR ρ (.var j) = d.r := congrArg X.r hx
  refine ⟨⟨h2, h3, h6⟩, fun n => ⟨rfl, fun pre post hn i x hi' => ?_⟩, fun pre post => ⟨by simp [raLs, RA.isRow], A, _, c, h1⟩⟩
  cases i with
  | succ i => simp [raHp] at hi'
  | zero =>
   simp [raHp] at hi'
   subst hi'
   refine ⟨rfl, A, c, by rw [eI, ← hn]; simp [raLs, RA.isRow, h1], by rw [eI]; exact h2, by rw [eI]; exact h3, by rw [eI]; exact h4, h5, by rw [eI, eR]; exact h6, (fun e => by cases e), fun _ h0 => ?_⟩
   rw [eI] at h0
   rw [eI, eR]; exact h7 h0
theorem raL_len : ∀ {ks : List RA} {ds : Ds} {vs : List Value}, raL w ks ds vs → ds.length = ks.length
 | [], [], [], _ => rfl
 | _ :: _, _ :: _, _ :: _, h => by simp [raL_len h.2]
 | [], [], _ :: _, h => h.elim
 | [], _ :: _, _, h => h.elim
 | _ :: _, [], _, h => h.elim
 | _ :: _, _ :: _, [], h => h.elim
def raLss : List Value → List RA → Ls
 | v :: vs, k :: ks => raLs v k ++ raLss vs ks
 | _, _ => []
theorem raLs_len (v : Value) (k : RA) (n : Nat) : k.nx n = n + (raLs v k).length := by unfold RA.nx raLs; split <;> simp
theorem raLs_ok : ∀ {ks : List RA} {ds : Ds} {vs : List Value} {j : Nat}, raL w ks ds vs → (∀ i x, ds[i]? = some x → ρ.x (j + i) = x) →
 raXs ks ds ∧ (∀ n, ArgH ρ w n (raLss vs ks) (raHps ks j)) ∧ (raLss vs ks).length = nRows ks ∧ ∀ (pre post : Ls), All2 (RS ρ (pre ++ raLss vs ks ++ post)) (raSs ks j pre.length) vs
 | [], [], [], j, _, _ => ⟨trivial, fun n => ⟨rfl, fun _ _ _ i x hx => by simp [raHps] at hx⟩, rfl, fun _ _ => trivial⟩
 | k :: ks, d :: ds, v :: vs, j, h, hx => by
  obtain ⟨a1, a2, a3⟩ := ra_ok (ρ := ρ) (j := j) h.1 (hx 0 d rfl)
  obtain ⟨b1, b2, b3, b4⟩ := raLs_ok (j := j + 1) h.2 fun i x hi => by
   have := hx (i + 1) x (by simpa using hi)
   rwa [show j + (i + 1) = j + 1 + i by omega] at this
  refine ⟨⟨a1, b1⟩, fun n => (a2 n).app (b2 _), ?_, fun pre post => ⟨?_, ?_⟩⟩
  ·show (raLs v k ++ raLss vs ks).length = _
   rw [List.length_append, b3]
   simp only [nRows, raLs]
   split <;> simp
  ·have := a3 pre (raLss vs ks ++ post)
   simpa [raLss, List.append_assoc] using this
  ·have := b4 (pre ++ raLs v k) post
   rw [List.length_append, ← raLs_len] at this
   simpa [raLss, List.append_assoc] using this
 | [], [], _ :: _, _, h, _ => h.elim
 | [], _ :: _, _, _, h, _ => h.elim
 | _ :: _, [], _, _, h, _ => h.elim
 | _ :: _, _ :: _, [], _, h, _ => h.elim
theorem rsh_okN : ∀ {sh : List RSh} {ds : Ds} {vs : List Value} {j n : Nat}, argRel w sh ds vs → (∀ i x, ds[i]? = some x → ρ.x (j + i) = x) →
 ∃ lsn : Ls, rshX sh ds ∧ ArgH ρ w n lsn (rshHq sh j n) ∧ ∀ (pre post : Ls), pre.length = n → All2 (RV ρ (pre ++ lsn ++ post)) (rshS sh j n) vs
 | [], [], [], j, n, _, _ => ⟨[], rfl, ⟨rfl, fun _ _ _ i x hx => by simp [rshHq] at hx⟩, fun _ _ _ => trivial⟩
 | .one k :: sh, d :: ds, v :: vs, j, n, h, hx => by
  obtain ⟨a1, a2, a3⟩ := ra_ok (ρ := ρ) (j := j) h.1 (hx 0 d rfl)
  obtain ⟨lsn, b1, b2, b3⟩ := rsh_okN (j := j + 1) (n := k.nx n) h.2 fun i x hi => by
   have := hx (i + 1) x (by simpa using hi)
   rwa [show j + (i + 1) = j + 1 + i by omega] at this
  refine ⟨raLs v k ++ lsn, ⟨a1, b1⟩, (a2 n).app (by rw [← raLs_len]; exact b2), fun pre post hn => ⟨?_, ?_⟩⟩
  ·have := a3 pre (lsn ++ post)
   show RS ρ _ (raS j n k) v
   rw [hn] at this
   simpa [List.append_assoc] using this
  ·have := b3 (pre ++ raLs v k) post (by rw [List.length_append, hn, raLs_len])
   simpa [List.append_assoc] using this
 | .agg ks :: sh, ds, v :: vs, j, n, h, hx => by
  obtain ⟨⟨us, rfl, h1⟩, h2⟩ := h
  have hl := raL_len h1
  obtain ⟨a1, a2, a3, a4⟩ := raLs_ok (ρ := ρ) (j := j) h1 fun i x hi => by
   rw [List.getElem?_take] at hi
   split at hi
   ·exact hx i x hi
   ·cases hi
  obtain ⟨lsn, b1, b2, b3⟩ := rsh_okN (j := j + ks.length) (n := n + nRows ks) h2 fun i x hi => by
   rw [List.getElem?_drop] at hi
   have := hx (ks.length + i) x hi
   rwa [show j + (ks.length + i) = j + ks.length + i by omega] at this
  refine ⟨raLss us ks ++ lsn, ⟨a1, by simp at hl; omega, b1⟩, (a2 n).app (by rw [a3]; exact b2), fun pre post hn => ⟨⟨us, rfl, ?_⟩, ?_⟩⟩
  ·have := a4 pre (lsn ++ post)
   rw [hn] at this
   simpa [List.append_assoc] using this
  ·have := b3 (pre ++ raLss us ks) post (by rw [List.length_append, hn, a3])
   simpa [List.append_assoc] using this
 | .ptr ks :: sh, ds, v :: vs, j, n, h, hx => by
  obtain ⟨⟨a, us, rfl, hc, hb, h1⟩, h2⟩ := h
  have hl := raL_len h1
  obtain ⟨a1, a2, a3, a4⟩ := raLs_ok (ρ := ρ) (j := j) h1 fun i x hi => by
   rw [List.getElem?_take] at hi
   split at hi
   ·exact hx i x hi
   ·cases hi
  obtain ⟨lsn, b1, b2, b3⟩ := rsh_okN (j := j + ks.length) (n := n + nRows ks + 1) h2 fun i x hi => by
   rw [List.getElem?_drop] at hi
   have := hx (ks.length + i) x hi
   rwa [show j + (ks.length + i) = j + ks.length + i by omega] at this
  have hlen : (raLss us ks ++ [Value.pointer (some a)]).length = nRows ks + 1 := by rw [List.length_append, a3]; rfl
  have hp1 : ArgH ρ w n (raLss us ks ++ [.pointer (some a)]) (raHps ks j ++ [⟨false, 0, .cells (raSs ks j n)⟩]) := by
   refine ⟨by rw [List.length_append, List.length_append, (a2 n).1]; rfl, fun pre post hn i x hx => ?_⟩
   rw [List.getElem?_append] at hx
   split at hx
   ·have := (a2 n).2 pre ([.pointer (some a)] ++ post) hn i x hx
    rwa [show pre ++ raLss us ks ++ ([Value.pointer (some a)] ++ post) = pre ++ (raLss us ks ++ [.pointer (some a)]) ++ post by simp [List.append_assoc]] at this
   ·rename_i hlt
    have hi0 : i - (raHps ks j).length = 0 := by
     have := (List.getElem?_eq_some_iff.1 hx).1
     simp at this
     omega
    rw [hi0] at hx
    cases hx
    have hil : i = nRows ks := by
     have := (a2 n).1
     rw [a3] at this
     omega
    subst hil
    refine ⟨rfl, a, us, ?_, ?_, hc, (fun e => by cases e), fun _ => hb⟩
    ·rw [List.append_assoc, List.getElem?_append_right (by omega), hn, List.append_assoc, List.getElem?_append_right (by rw [a3]; omega), a3]
     simp
    ·have := a4 pre ([.pointer (some a)] ++ post)
     rw [hn] at this
     rwa [show pre ++ raLss us ks ++ ([Value.pointer (some a)] ++ post) = pre ++ (raLss us ks ++ [.pointer (some a)]) ++ post by simp [List.append_assoc]] at this
  refine ⟨(raLss us ks ++ [.pointer (some a)]) ++ lsn, ⟨a1, by simp at hl; omega, b1⟩, hp1.app (by rw [hlen, ← Nat.add_assoc]; exact b2), fun pre post hn => ⟨?_, ?_⟩⟩
  ·refine ⟨a, ?_, rfl⟩
   show (pre ++ (raLss us ks ++ [.pointer (some a)] ++ lsn) ++ post)[n + nRows ks]? = _
   rw [List.append_assoc, List.getElem?_append_right (by omega), hn, List.append_assoc, List.append_assoc, List.getElem?_append_right (by rw [a3]; omega), a3]
   simp
  ·have := b3 (pre ++ (raLss us ks ++ [.pointer (some a)])) post (by rw [List.length_append, hn, hlen]; omega)
   simpa [List.append_assoc] using this
 | [], [], _ :: _, _, _, h, _ => h.elim
 | [], _ :: _, _, _, _, h, _ => by cases h
 | .one _ :: _, [], _, _, _, h, _ => by cases h
 | .one _ :: _, _ :: _, [], _, _, h, _ => h.elim
 | .agg _ :: _, _, [], _, _, h, _ => by simp [argRel] at h
 | .ptr _ :: _, _, [], _, _, h, _ => by simp [argRel] at h
theorem rsh_ok {sh : List RSh} {ds : Ds} {vs : List Value} {j : Nat} (h : argRel w sh ds vs) (hx : ∀ i x, ds[i]? = some x → ρ.x (j + i) = x) :
 ∃ lsn : Ls, rshX sh ds ∧ ArgH ρ w 0 lsn (rshHp sh j) ∧ All2 (RV ρ lsn) (rshS sh j 0) vs := by
 obtain ⟨lsn, h1, h2, h3⟩ := rsh_okN (j := j) (n := 0) h hx
 have := h3 [] [] rfl
 rw [List.nil_append, List.append_nil] at this
 exact ⟨lsn, h1, h2, this⟩
def walkR (P : Program) (cf : Cfg) (fn : Func) (n : Nat) (args : List RSh) : Fm := go P cf 0 fn n (.code (bodyC fn)) [] (begin1 fn (rshS args 0 0) (rshHp args 0)) [] none
theorem rctr_of {c : RCtr} (hc : CfgOk P ρ cf) {fn : Func} (hf : P.funcs[c.f]? = some fn) (hb : fn.body = some (bodyC fn)) (n : Nat) (hpre : c.pre = none)
 (h : ∀ ds, rshX c.args ds → ctrR (fun j => ρ.f j ds) c.fs c.res { ρ with x := fun j => ds.getD j (xI 0) } (walkR P cf fn n c.args)) : RCtrOk P ρ c := by
 intro ds vs w hg hr _
 obtain ⟨lsn, b1, b2, b3⟩ := rsh_ok (ρ := { ρ with x := fun j => ds.getD j (xI 0) }) (j := 0) hr fun i x hi => by
  show ds.getD (0 + i) (xI 0) = x
  rw [Nat.zero_add, List.getD_eq_getElem?_getD, hi]; rfl
 have hv := b3
 exact call_okH (ρ := { ρ with x := fun j => ds.getD j (xI 0) }) (hc.withX _) hf hb n (b2.hok hg) hv (ctrR_holds (h ds b1))
theorem rctr_ofP {c : RCtr} (hc : CfgOk P ρ cf) {fn : Func} (hf : P.funcs[c.f]? = some fn) (hb : fn.body = some (bodyC fn)) (n : Nat) {q : Nat} (hpre : c.pre = some q)
 (h : ∀ ds, rshX c.args ds → ρ.p q ds → ctrR (fun j => ρ.f j ds) c.fs c.res { ρ with x := fun j => ds.getD j (xI 0) } (walkR P cf fn n c.args)) : RCtrOk P ρ c := by
 intro ds vs w hg hr hp
 rw [hpre] at hp
 obtain ⟨lsn, b1, b2, b3⟩ := rsh_ok (ρ := { ρ with x := fun j => ds.getD j (xI 0) }) (j := 0) hr fun i x hi => by
  show ds.getD (0 + i) (xI 0) = x
  rw [Nat.zero_add, List.getD_eq_getElem?_getD, hi]; rfl
 have hv := b3
 exact call_okH (ρ := { ρ with x := fun j => ds.getD j (xI 0) }) (hc.withX _) hf hb n (b2.hok hg) hv (ctrR_holds (h ds b1 hp))
def raKd : RA → RA → Bool
 | .int k _ _, .int k' _ _ => decide (k = k')
 | .bool, .bool => true
 | .str _, .str _ => true
 | .row sh _, .row sh' _ => shKd sh sh'
 | _, _ => false
def raKds : List RA → List RA → Bool
 | [], [] => true
 | a :: r, b :: s => raKd a b && raKds r s
 | _, _ => false
def rshKd : List RSh → List RSh → Bool
 | [], [] => true
 | .one a :: r, .one b :: s => raKd a b && rshKd r s
 | .agg a :: r, .agg b :: s => raKds a b && rshKd r s
 | .ptr a :: r, .ptr b :: s => raKds a b && rshKd r s
 | _, _ => false
theorem raKd_ok {d : X} {a b : RA} {v : Value} (h : raKd a b = true) (hr : raR w d a v) (hx : raX d b) : raR w d b v := by
 unfold raKd at h
 split at h
 ·have h := of_decide_eq_true h
  subst h
  exact ⟨hr.1, hx⟩
 ·exact hr
 ·obtain ⟨s, h1, h2, h3, _⟩ := hr
  obtain ⟨s', g1, g2, g3⟩ := hx
  rw [h2] at g1; cases g1
  exact ⟨s, h1, h2, h3, g3⟩
 ·rename_i sh hi sh' hi'
  obtain ⟨hl, _⟩ := shKd_v h
  obtain ⟨A, c, h1, h2, h3, h4, h5, h6, h7⟩ := hr
  obtain ⟨g1, g2, g3⟩ := hx
  exact ⟨A, c, h1, h2, g2, h4, by rw [← hl]; exact h5, g3, fun hn => by
   obtain ⟨a, ha, hc⟩ := h7 hn
   refine ⟨a, ha, ?_⟩
   rw [← shKd_row h]; exact hc⟩
 ·cases h
theorem raKds_ok : ∀ {a b : List RA} {ds : Ds} {vs : List Value}, raKds a b = true → raL w a ds vs → raXs b ds → a.length = b.length ∧ raL w b ds vs
 | [], [], _, _, _, hr, _ => ⟨rfl, hr⟩
 | a :: r, b :: s, d :: ds, v :: vs, h, hr, hx => by
  simp only [raKds, Bool.and_eq_true] at h
  obtain ⟨e, h2⟩ := raKds_ok h.2 hr.2 hx.2
  exact ⟨by simp [e], raKd_ok h.1 hr.1 hx.1, h2⟩
 | _ :: _, _ :: _, [], _, _, hr, _ => by cases hr
 | _ :: _, _ :: _, _ :: _, [], _, hr, _ => by cases hr
 | [], _ :: _, _, _, h, _, _ => by cases h
 | _ :: _, [], _, _, h, _, _ => by cases h
theorem raKds_len : ∀ {a b : List RA}, raKds a b = true → a.length = b.length
 | [], [], _ => rfl
 | a :: r, b :: s, h => by
  simp only [raKds, Bool.and_eq_true] at h
  simp [raKds_len h.2]
 | [], _ :: _, h => by cases h
 | _ :: _, [], h => by cases h
theorem rshKd_ok : ∀ {a b : List RSh} {ds : Ds} {vs : List Value}, rshKd a b = true → argRel w a ds vs → rshX b ds → argRel w b ds vs
 | [], [], _, _, _, hr, _ => hr
 | .one a :: r, .one b :: s, d :: ds, v :: vs, h, hr, hx => by
  simp only [rshKd, Bool.and_eq_true] at h
  exact ⟨raKd_ok h.1 hr.1 hx.1, rshKd_ok h.2 hr.2 hx.2⟩
 | .agg a :: r, .agg b :: s, ds, v :: vs, h, hr, hx => by
  simp only [rshKd, Bool.and_eq_true] at h
  obtain ⟨⟨us, h1, h2⟩, h3⟩ := hr
  obtain ⟨g1, _, g3⟩ := hx
  have el := raKds_len h.1
  rw [el] at h2 h3
  exact ⟨⟨us, h1, (raKds_ok h.1 h2 g1).2⟩, rshKd_ok h.2 h3 g3⟩
 | .ptr a :: r, .ptr b :: s, ds, v :: vs, h, hr, hx => by
  simp only [rshKd, Bool.and_eq_true] at h
  obtain ⟨⟨x, us, h1, hc, hb, h2⟩, h3⟩ := hr
  obtain ⟨g1, _, g3⟩ := hx
  have el := raKds_len h.1
  rw [el] at h2 h3
  exact ⟨⟨x, us, h1, hc, hb, (raKds_ok h.1 h2 g1).2⟩, rshKd_ok h.2 h3 g3⟩
 | .ptr _ :: _, .ptr _ :: _, _, [], _, hr, _ => by cases hr
 | [], .ptr _ :: _, _, _, h, _, _ => by cases h
 | .ptr _ :: _, [], _, _, h, _, _ => by cases h
 | .ptr _ :: _, .one _ :: _, _, _, h, _, _ => by cases h
 | .ptr _ :: _, .agg _ :: _, _, _, h, _, _ => by cases h
 | .one _ :: _, .ptr _ :: _, _, _, h, _, _ => by cases h
 | .agg _ :: _, .ptr _ :: _, _, _, h, _, _ => by cases h
 | .one _ :: _, .one _ :: _, [], _, _, hr, _ => by cases hr
 | .one _ :: _, .one _ :: _, _ :: _, [], _, hr, _ => by cases hr
 | .agg _ :: _, .agg _ :: _, _, [], _, hr, _ => by cases hr
 | [], .one _ :: _, _, _, h, _, _ => by cases h
 | [], .agg _ :: _, _, _, h, _, _ => by cases h
 | .one _ :: _, [], _, _, h, _, _ => by cases h
 | .agg _ :: _, [], _, _, h, _, _ => by cases h
 | .one _ :: _, .agg _ :: _, _, _, h, _, _ => by cases h
 | .agg _ :: _, .one _ :: _, _, _, h, _, _ => by cases h
theorem rctr_ofN {c : RCtr} (hc : CfgOk P ρ cf) {fn : Func} (hf : P.funcs[c.f]? = some fn) (hb : fn.body = some (bodyC fn)) (n : Nat) {q : Nat} (hpre : c.pre = some q) {sh : List RSh} (hkd : rshKd c.args sh = true) (hn : ∀ ds, rshX c.args ds → ρ.p q ds → rshX sh ds)
 (h : ∀ ds, rshX sh ds → ρ.p q ds → ctrR (fun j => ρ.f j ds) c.fs c.res { ρ with x := fun j => ds.getD j (xI 0) } (walkR P cf fn n sh)) : RCtrOk P ρ c := by
 intro ds vs w hg hr hp
 rw [hpre] at hp
 obtain ⟨_, b0, _, _⟩ := rsh_ok (ρ := { ρ with x := fun j => ds.getD j (xI 0) }) (j := 0) hr fun i x hi => by
  show ds.getD (0 + i) (xI 0) = x
  rw [Nat.zero_add, List.getD_eq_getElem?_getD, hi]; rfl
 have hr' := rshKd_ok hkd hr (hn ds b0 hp)
 obtain ⟨lsn, b1, b2, b3⟩ := rsh_ok (ρ := { ρ with x := fun j => ds.getD j (xI 0) }) (j := 0) hr' fun i x hi => by
  show ds.getD (0 + i) (xI 0) = x
  rw [Nat.zero_add, List.getD_eq_getElem?_getD, hi]; rfl
 have hv := b3
 exact call_okH (ρ := { ρ with x := fun j => ds.getD j (xI 0) }) (hc.withX _) hf hb n (b2.hok hg) hv (ctrR_holds (h ds b1 hp))
end
end Vc
end Go.Proofs.YtelbilnnmmbmdaaDoor
namespace Go.Proofs.YtelbilnnmmbmdaaDoor
namespace Vc
open Go Go.RowKit Go.ChangeShapes Go.WideShapes Go.ChangeAt
set_option linter.unusedVariables false
inductive Lg where
 | sc (l : Lf) | row (ks : List Lf)
 deriving DecidableEq, Inhabited
def lfK : Lf → Sk
 | .int k => .int k (kmin k) (kmax k)
 | .bool => .bool
 | .str => .str maxLen
def lfA : Lf → RA
 | .int k => .int k (kmin k) (kmax k)
 | .bool => .bool
 | .str => .str maxLen
def Lg.ra : Lg → RA
 | .sc l => lfA l
 | .row ks => .row (ks.map lfK) maxLen
def LgOk (w : World) : Lg → Value → Prop
 | .sc l, v => LfOk l v
 | .row ks, v => ∃ A n c, v = .slice A n c ∧ n ≤ c ∧ n ≤ maxLen ∧ 0 < ks.length ∧ (0 < n → ∃ a, A = some a ∧ ∀ i, i < n → ∃ us, All2 LfOk ks us ∧ ∀ p u, us[p]? = some u → w.cell? (a.add (i * ks.length + p)) = some u)
def leavesGF (P : Program) (g : TypeId → Option (List Lg)) : List Field → Nat → Option (List Lg)
 | [], _ => some []
 | f :: r, off => match g f.type, leavesGF P g r (off + P.cellsOf f.type) with
  | some l, some l' => if l.length = P.cellsOf f.type ∧ f.offset = off then some (l ++ l') else none
  | _, _ => none
def leavesG (P : Program) : Nat → TypeId → Option (List Lg)
 | 0, _ => none
 | m + 1, t => match P.underlying t with
  | some (.int k) => some [.sc (.int k)]
  | some .bool => some [.sc .bool]
  | some .string => some [.sc .str]
  | some (.slice e) => (match leaves P m e with | some ks => if 0 < ks.length ∧ ks.length = P.cellsOf e then some [.row ks] else none | none => none)
  | some (.array n e) => (match leaves P m e with | some l => if l.length = P.cellsOf e ∧ P.cellsOf t = n * P.cellsOf e then some ((rep l n).map .sc) else none | none => none)
  | some (.struct fs) => (match leavesGF P (leavesG P m) fs.toList 0 with | some l => if l.length = P.cellsOf t then some l else none | none => none)
  | _ => none
section
variable {H : Type} {enc : TypeId × Value → H} {P : Program} {w : World} {base : Nat} {sp : Nat → Bool} {held : Bool}
theorem leavesGF_ok {g : TypeId → Option (List Lg)} {cs : List Value} : ∀ {fl : List Field} {off : Nat} {ks : List Lg}, leavesGF P g fl off = some ks → (∀ f ∈ fl, ∀ l, g f.type = some l → All2 (LgOk w) l ((cs.drop f.offset).take (P.cellsOf f.type))) → All2 (LgOk w) ks ((cs.drop off).take ks.length)
 | [], off, ks, h, _ => by cases h; simp [All2]
 | f :: r, off, ks, h, hf => by
  simp only [leavesGF] at h
  split at h
  ·rename_i l l' hl hl'
   split at h
   ·rename_i hif
    obtain ⟨h1, h2⟩ := hif
    cases h
    have a1 := hf f (by simp) l hl
    have a2 := leavesGF_ok hl' fun f' hf' => hf f' (by simp [hf'])
    rw [h2, ← h1] at a1
    rw [← h1, ← List.drop_drop] at a2
    rw [List.length_append, List.take_add]
    exact a1.append a2
   ·cases h
  ·cases h
theorem All2.mapA {α β γ : Type} {R : α → β → Prop} (f : γ → α) : ∀ {as : List γ} {bs : List β}, All2 (fun x y => R (f x) y) as bs → All2 R (as.map f) bs
 | [], [], _ => trivial
 | _ :: _, _ :: _, h => ⟨h.1, All2.mapA f h.2⟩
 | [], _ :: _, h => h.elim
 | _ :: _, [], h => h.elim
theorem trod_leavesG : ∀ {m n : Nat} {t : TypeId} {cs : List Value} {x : DataW H × List MemPlace} {ks : List Lg}, leavesG P m t = some ks → DataW.trod enc P w base sp held n t cs = some x → All2 (LgOk w) ks cs
 | 0, _, _, _, _, _, h, _ => by cases h
 | m + 1, n, t, cs, x, ks, h, hx => by
  simp only [leavesG] at h
  split at h
  ·rename_i k ht
   cases h
   exact (trod_leaves (m := 1) (by simp only [leaves, ht]) hx |> fun (q : All2 LfOk [.int k] cs) => by
    cases cs with
    | nil => exact q.elim
    | cons c r => exact ⟨q.1, by cases r with | nil => trivial | cons _ _ => exact q.2.elim⟩)
  ·rename_i ht
   cases h
   exact (trod_leaves (m := 1) (by simp only [leaves, ht]) hx |> fun (q : All2 LfOk [.bool] cs) => by
    cases cs with
    | nil => exact q.elim
    | cons c r => exact ⟨q.1, by cases r with | nil => trivial | cons _ _ => exact q.2.elim⟩)
  ·rename_i ht
   cases h
   exact (trod_leaves (m := 1) (by simp only [leaves, ht]) hx |> fun (q : All2 LfOk [.str] cs) => by
    cases cs with
    | nil => exact q.elim
    | cons c r => exact ⟨q.1, by cases r with | nil => trivial | cons _ _ => exact q.2.elim⟩)
  ·rename_i e ht
   split at h
   ·rename_i l hl
    split at h
    ·rename_i hif
     obtain ⟨h0, h1⟩ := hif
     cases h
     rcases DataW.trod_slice ht hx with ⟨rfl, _⟩ | ⟨a, len, cap, elems, rest, n', _, rfl, _, _, hlc, hcm, hel, hget, _⟩
     ·exact ⟨⟨none, 0, 0, rfl, Nat.le_refl _, Nat.zero_le _, h0, fun h => by omega⟩, trivial⟩
     ·refine ⟨⟨some a, len, cap, rfl, hlc, by omega, h0, fun _ => ⟨a, rfl, fun i hi => ?_⟩⟩, trivial⟩
      have hg := hget i hi
      rw [List.getElem?_eq_getElem (by omega)] at hg
      cases hc : w.cells? base (a.add (i * P.cellsOf e)) (P.cellsOf e) with
      | none => rw [hc] at hg; cases hg
      | some cs =>
       rw [hc] at hg
       obtain ⟨_, hcl, hcc⟩ := World.cells?_some hc
       refine ⟨cs, trod_leaves hl hg, fun p u hu => ?_⟩
       have hp : p < P.cellsOf e := by rw [← hcl]; exact (List.getElem?_eq_some_iff.1 hu).1
       have := hcc p hp
       rw [add_add, hu] at this
       rw [h1]; exact this
    ·cases h
   ·cases h
  ·rename_i len e ht
   split at h
   ·rename_i l hl
    split at h
    ·rename_i hif
     obtain ⟨h1, h2⟩ := hif
     cases h
     have := trod_leaves (m := m + 1) (ks := rep l len) (by simp only [leaves, ht, hl]; rw [if_pos ⟨h1, h2⟩]) hx
     exact All2.mapA _ this
    ·cases h
   ·cases h
  ·rename_i fs ht
   split at h
   ·rename_i l hl
    split at h
    ·rename_i hif
     cases h
     obtain ⟨xs, m', _, _, hlen, hxs, hel⟩ := DataW.trod_struct ht hx
     have := leavesGF_ok (w := w) (cs := cs) hl fun f hf l' hl' => by
      obtain ⟨i, hi⟩ := List.getElem?_of_mem hf
      have hi' : fs[i]? = some f := by simpa using hi
      have := hel i f hi'
      have hlt : i < fs.size := (Array.getElem?_eq_some_iff.1 hi').1
      rw [List.getElem?_eq_getElem (by omega)] at this
      exact trod_leavesG hl' this
     rw [hif, ← hlen, List.drop_zero, List.take_length] at this
     exact this
    ·cases h
   ·cases h
  ·cases h
def rowXs (w : World) (sz : Nat) : Value → X
 | .slice A n _ => ⟨n, false, .nilIface, fun j p => (match A with | some a => (valX ((w.cell? (a.add (j.toNat * sz + p.toNat))).getD undef)).y | none => y0)⟩
 | _ => xI 0
def lgVal (w : World) : Lg → Value → X
 | .sc _, v => valX v
 | .row ks, v => rowXs w ks.length v
theorem lf_ra {l : Lf} {v : Value} (h : LfOk l v) : raR w (valX v) (lfA l) v := by
 cases l with
 | int k => obtain ⟨n, rfl, h1, h2⟩ := h; exact ⟨rfl, rfl, h1, h2⟩
 | bool => obtain ⟨b, rfl⟩ := h; exact ⟨rfl, rfl⟩
 | str => obtain ⟨s, rfl, h1⟩ := h; exact ⟨s, rfl, rfl, rfl, by exact_mod_cast h1⟩
theorem lf_sk {l : Lf} {v : Value} (h : LfOk l v) : skV (lfK l) (valX v).y = v ∧ skOk (lfK l) (valX v).y := by
 cases l with
 | int k => obtain ⟨n, rfl, h1, h2⟩ := h; exact ⟨rfl, h1, h2⟩
 | bool => obtain ⟨b, rfl⟩ := h; exact ⟨rfl, trivial⟩
 | str => obtain ⟨s, rfl, h1⟩ := h; exact ⟨rfl, s, rfl, rfl, by exact_mod_cast h1⟩
theorem lg_ra {g : Lg} {v : Value} (h : LgOk w g v) : raR w (lgVal w g v) g.ra v := by
 cases g with
 | sc l => exact lf_ra h
 | row ks =>
  obtain ⟨A, n, c, rfl, h1, h2, h3, h4⟩ := h
  have key : ∀ (i p : Nat) (s : Sk), i < n → (ks.map lfK)[p]? = some s → ∃ a u, A = some a ∧ w.cell? (a.add (i * ks.length + p)) = some u ∧ skV s ((rowXs w ks.length (.slice A n c)).r i p) = u ∧ skOk s ((rowXs w ks.length (.slice A n c)).r i p) := fun i p s hi hs => by
   obtain ⟨a, rfl, q⟩ := h4 (by omega)
   obtain ⟨us, q1, q2⟩ := q i hi
   rw [List.getElem?_map] at hs
   cases hk : ks[p]? with
   | none => rw [hk] at hs; cases hs
   | some l =>
    rw [hk] at hs
    cases hs
    obtain ⟨u, hu, hl⟩ := q1.get hk
    have hc := q2 p u hu
    have e : (rowXs w ks.length (.slice (some a) n c)).r i p = (valX u).y := by
     show (valX ((w.cell? (a.add ((i : Int).toNat * ks.length + (p : Int).toNat))).getD undef)).y = _
     rw [Int.toNat_natCast, Int.toNat_natCast, hc]; rfl
    obtain ⟨k1, k2⟩ := lf_sk hl
    exact ⟨a, u, rfl, hc, by rw [e]; exact k1, by rw [e]; exact k2⟩
  refine ⟨A, c, by show _ = Value.slice A (n : Int).toNat c; rw [Int.toNat_natCast], Int.natCast_nonneg _, by show ((n : Nat) : Int) ≤ _; exact_mod_cast h2, by show (n : Int).toNat ≤ c; rw [Int.toNat_natCast]; exact h1, by simpa using h3, fun i hi => ?_, fun h0 => ?_⟩
  ·have hi' : i < n := by have : i < (n : Int).toNat := hi; rwa [Int.toNat_natCast] at this
   refine elOk_of fun p s hs => ?_
   obtain ⟨a, u, _, _, _, q⟩ := key i p s hi' hs
   rw [Int.zero_add]; exact q
  ·have h0' : 0 < n := by have : 0 < (n : Int).toNat := h0; rwa [Int.toNat_natCast] at this
   obtain ⟨a, rfl, _⟩ := h4 h0'
   refine ⟨a, rfl, fun j u hu => ?_⟩
   have hn : (lgVal w (.row ks) (.slice (some a) n c)).i.toNat = n := Int.toNat_natCast n
   rw [hn] at hu
   have hlt : j < n * (ks.map lfK).length := by have := (List.getElem?_eq_some_iff.1 hu).1; rwa [rowV_len] at this
   have hz : 0 < (ks.map lfK).length := by simpa using h3
   have e : j / (ks.map lfK).length * (ks.map lfK).length + j % (ks.map lfK).length = j := by rw [Nat.mul_comm]; exact Nat.div_add_mod j _
   have hi : j / (ks.map lfK).length < n := Nat.div_lt_of_lt_mul (by rw [Nat.mul_comm]; exact hlt)
   have hj : j % (ks.map lfK).length < (ks.map lfK).length := Nat.mod_lt _ hz
   have hs : (ks.map lfK)[j % (ks.map lfK).length]? = some (ks.map lfK)[j % (ks.map lfK).length] := List.getElem?_eq_getElem hj
   have hg := rowV_get (R := (lgVal w (.row ks) (.slice (some a) n c)).r) hi hs
   rw [e, hu] at hg
   obtain ⟨a', u', q1, q2, q3, _⟩ := key _ _ _ hi hs
   cases q1
   have : u = u' := by
    injection hg with hg
    rw [hg]; exact q3
   subst this
   rw [List.length_map] at q2 e
   rw [e] at q2
   exact q2
theorem lg_raL : ∀ {gs : List Lg} {vs : List Value}, All2 (LgOk w) gs vs → ∃ ds : Ds, ds.length = gs.length ∧ raL w (gs.map Lg.ra) ds vs
 | [], [], _ => ⟨[], rfl, trivial⟩
 | g :: gs, v :: vs, h => by
  obtain ⟨ds, h1, h2⟩ := lg_raL h.2
  exact ⟨lgVal w g v :: ds, by simp [h1], lg_ra h.1, h2⟩
 | [], _ :: _, h => h.elim
 | _ :: _, [], h => h.elim
def shT (P : Program) (t : TypeId) : Option RSh :=
 match leavesG P 20 t with
 | none => none
 | some gs => match P.underlying t, gs with
  | some (.struct _), gs => some (.agg (gs.map Lg.ra))
  | some (.array _ _), gs => some (.agg (gs.map Lg.ra))
  | some (.int _), [g] => some (.one g.ra)
  | some .bool, [g] => some (.one g.ra)
  | some .string, [g] => some (.one g.ra)
  | some (.slice _), [g] => some (.one g.ra)
  | _, _ => none
def shTs (P : Program) : List TypeId → Option (List RSh)
 | [] => some []
 | t :: ts => (match shT P t, shTs P ts with | some s, some r => some (s :: r) | _, _ => none)
theorem argRel_app {ks : List RA} {sh : List RSh} {ds ds' : Ds} {us vs : List Value} (h : raL w ks ds us) (hl : ds.length = ks.length) (h' : argRel w sh ds' vs) : argRel w (.agg ks :: sh) (ds ++ ds') (.agg us.toArray :: vs) := by
 refine ⟨⟨us, rfl, ?_⟩, ?_⟩
 ·rw [List.take_left' hl]; exact h
 ·rw [List.drop_left' hl]; exact h'
theorem args_rel {r : Reach} {b0 : Nat} : ∀ {ts : List TypeId} {vs : List Value} {dd : List (DataW H)} {ps : List MemPlace} {sh : List RSh}, DataW.TrodAll enc P w base sp held ts vs dd ps → (∀ (i : Nat) t v, ts[i]? = some t → vs[i]? = some v → Value.okWide P w r b0 t v) → shTs P ts = some sh → ∃ ds, argRel w sh ds vs
 | [], [], _, _, sh, _, _, h => by cases h; exact ⟨[], trivial⟩
 | [], _ :: _, _, _, _, h, _, _ => by simp [DataW.TrodAll] at h
 | t :: ts, [], _, _, _, h, _, _ => by simp [DataW.TrodAll] at h
 | t :: ts, v :: vs, [], _, _, h, _, _ => by simp [DataW.TrodAll] at h
 | t :: ts, v :: vs, d :: dd, ps, sh, h, hval, hs => by
  obtain ⟨p, q, ⟨fuel, h1⟩, h2, _⟩ := h
  simp only [shTs] at hs
  split at hs
  ·rename_i s r' hst hrec
   cases hs
   obtain ⟨ds', i1⟩ := args_rel h2 (fun i t v ht hv => hval (i + 1) t v (by simpa using ht) (by simpa using hv)) hrec
   have hok := hval 0 t v rfl rfl
   unfold shT at hst
   split at hst
   ·cases hst
   ·rename_i gs hgs
    have hall := trod_leavesG hgs h1
    obtain ⟨ds, l1, l2⟩ := lg_raL hall
    have agg : (∃ cs, v = .agg cs) → argRel w (.agg (gs.map Lg.ra) :: r') (ds ++ ds') (v :: vs) := fun ⟨cs, e⟩ => by
     subst e
     have := argRel_app (us := cs.toList) l2 (by simp [l1]) i1
     simpa using this
    have one : ∀ {g : Lg}, gs = [g] → v.cells.toList = [v] → argRel w (.one g.ra :: r') (ds ++ ds') (v :: vs) := fun {g} e1 e2 => by
     subst e1
     rw [e2] at l2
     match ds, l1, l2 with
     | [d0], _, l2 => exact ⟨l2.1, i1⟩
    split at hst
    ·rename_i ty ht
     cases hst
     refine ⟨_, agg ?_⟩
     unfold Value.okWide at hok
     rw [ht] at hok
     obtain ⟨cs, e, _⟩ := hok
     exact ⟨cs, e⟩
    ·rename_i ty ht
     cases hst
     refine ⟨_, agg ?_⟩
     unfold Value.okWide at hok
     rw [ht] at hok
     obtain ⟨cs, e, _⟩ := hok
     exact ⟨cs, e⟩
    ·rename_i g ht
     cases hst
     obtain ⟨n, e, _⟩ := open_int ht hok ⟨fuel, h1⟩
     exact ⟨_, one rfl (by rw [e]; rfl)⟩
    ·rename_i g ht
     cases hst
     obtain ⟨n, e, _⟩ := open_bool ht hok ⟨fuel, h1⟩
     exact ⟨_, one rfl (by rw [e]; rfl)⟩
    ·rename_i g ht
     cases hst
     obtain ⟨n, e, _⟩ := Go.ChangeMaps.open_string ht hok ⟨fuel, h1⟩
     exact ⟨_, one rfl (by rw [e]; rfl)⟩
    ·rename_i e g ht
     cases hst
     obtain ⟨A, n, c, e'⟩ := okWide_slice ht hok
     exact ⟨_, one rfl (by rw [e']; rfl)⟩
    ·cases hst
  ·cases hs
theorem law_callsR {ρ : Env} {cf : Cfg} (hc : CfgOk P ρ cf) {f : FuncId} {fn : Func} (hf : P.funcs[f]? = some fn) (hb : fn.body = some (bodyC fn)) (n : Nat) {sh : List RSh} {ds : Ds} {us : List Value} (hg : GlobOk ρ.g w.heap.size w) (hr : argRel w sh ds us)
 (h : ∀ ds, rshX sh ds → (walkR P cf fn n sh).law { ρ with x := fun j => ds.getD j (xI 0) }) : Calls P f us.toArray w fun e w' => e = .returned (.bool true) ∧ Below w.heap.size w w' := by
 obtain ⟨lsn, b1, b2, b3⟩ := rsh_ok (ρ := { ρ with x := fun j => ds.getD j (xI 0) }) (j := 0) hr fun i x hi => by
  show ds.getD (0 + i) (xI 0) = x
  rw [Nat.zero_add, List.getD_eq_getElem?_getD, hi]; rfl
 have hv := b3
 exact call_okH (ρ := { ρ with x := fun j => ds.getD j (xI 0) }) (hc.withX _) hf hb n (b2.hok hg) hv (law_holds (h ds b1))
end
end Vc
end Go.Proofs.YtelbilnnmmbmdaaDoor
namespace Go.Proofs.YtelbilnnmmbmdaaDoor
namespace Vc
open Go Go.RowKit
set_option linter.unusedVariables false
def rowG {α : Type} (enc : α → Int → Y) (l : List α) : X := ⟨l.length, false, .nilIface, fun j p => match l[j.toNat]? with | some a => enc a p | none => y0⟩
def lstX {α : Type} (dec : (Int → Y) → α) (x : X) : List α := (List.range x.i.toNat).map fun (i : Nat) => dec (x.r i)
section
variable {α : Type} {enc : α → Int → Y} {dec : (Int → Y) → α} {x : X} {l : List α} {sh : List Sk} {R S : Int → Int → Y} {n m : Int}
theorem lstX_len (dec : (Int → Y) → α) (x : X) : (lstX dec x).length = x.i.toNat := by simp [lstX]
theorem lstX_get {i : Nat} (h : i < x.i.toNat) : (lstX dec x)[i]? = some (dec (x.r i)) := by
 unfold lstX
 rw [List.getElem?_map, List.getElem?_range h]; rfl
theorem lstX_eta (dec : (Int → Y) → α) (x : X) : lstX dec (mkX x.r x.i) = lstX dec x := rfl
theorem lstX_ext {x y : X} (hn : x.i.toNat = y.i.toNat) (h : ∀ i : Nat, i < x.i.toNat → dec (x.r i) = dec (y.r i)) : lstX dec x = lstX dec y := by
 apply List.ext_getElem?
 intro i
 by_cases hi : i < x.i.toNat
 ·rw [lstX_get hi, lstX_get (by omega), h i hi]
 ·rw [List.getElem?_eq_none (by rw [lstX_len]; omega), List.getElem?_eq_none (by rw [lstX_len]; omega)]
theorem lstX_rowG (h : ∀ a, dec (enc a) = a) (l : List α) : lstX dec (rowG enc l) = l := by
 apply List.ext_getElem?
 intro i
 have hl : (rowG enc l).i.toNat = l.length := by simp [rowG]
 by_cases hi : i < l.length
 ·rw [lstX_get (by rw [hl]; exact hi)]
  have : (rowG enc l).r i = enc l[i] := by funext p; simp [rowG, hi]
  rw [this, h, List.getElem?_eq_getElem hi]
 ·rw [List.getElem?_eq_none (by rw [lstX_len, hl]; omega), List.getElem?_eq_none (by omega)]
theorem rowG_i (enc : α → Int → Y) (l : List α) : (rowG enc l).i = l.length := rfl
theorem rowEq_of {hi : Int} (hed : ∀ f : Int → Y, eqEl sh (enc (dec f)) f 0) (h0 : 0 ≤ n) (hh : n ≤ hi) (h : lstX dec (mkX R n) = l) : rowEq sh (rowG enc l) R n hi := by
 subst h
 have hl : (lstX dec (mkX R n)).length = n.toNat := lstX_len _ _
 refine ⟨by rw [rowG_i, hl]; omega, hh, fun i hi => ?_⟩
 have hi' : i < n.toNat := by omega
 have : (rowG enc (lstX dec (mkX R n))).r i = enc (dec (R i)) := by
  funext p
  show (match (lstX dec (mkX R n))[(i : Int).toNat]? with | some a => enc a p | none => y0) = _
  rw [Int.toNat_natCast, lstX_get hi']; rfl
 rw [this]
 exact hed _
theorem lstX_cat (h0 : 0 ≤ n) (h1 : 0 ≤ m) : lstX dec (mkX (rwCat R n S) (n + m)) = lstX dec (mkX R n) ++ lstX dec (mkX S m) := by
 apply List.ext_getElem?
 intro i
 by_cases hi : i < (n + m).toNat
 ·rw [lstX_get (x := mkX (rwCat R n S) (n + m)) hi]
  by_cases hn : i < n.toNat
  ·rw [List.getElem?_append_left (by rw [lstX_len]; exact hn), lstX_get (x := mkX R n) hn]
   congr 2
   funext p
   exact if_pos (show (i : Int) < n by omega)
  ·rw [List.getElem?_append_right (by rw [lstX_len]; show n.toNat ≤ i; omega), lstX_len, show (mkX R n).i.toNat = n.toNat from rfl, lstX_get (x := mkX S m) (show i - n.toNat < m.toNat by omega)]
   congr 2
   funext p
   show (if (i : Int) < n then R i p else S ((i : Int) - n) p) = S ((i - n.toNat : Nat) : Int) p
   rw [if_neg (by omega), show (i : Int) - n = ((i - n.toNat : Nat) : Int) by omega]
 ·rw [List.getElem?_eq_none (by rw [lstX_len]; show (n + m).toNat ≤ i; omega), List.getElem?_eq_none (by rw [List.length_append, lstX_len, lstX_len]; show n.toNat + m.toNat ≤ i; omega)]
theorem lstX_one (dec : (Int → Y) → α) (sz : Nat) (es : List X) : lstX dec (mkX (rwTab sz es) 1) = [dec fun p => (es.getD p.toNat (xI 0)).y] := by
 have : (rwTab sz es) 0 = fun p => (es.getD p.toNat (xI 0)).y := by funext p; simp [rwTab]
 show [dec (rwTab sz es ((0 : Nat) : Int))] = _
 rw [← this]; rfl
theorem lstX_push (h0 : 0 ≤ n) (sz : Nat) (es : List X) : lstX dec (mkX (rwCat R n (rwTab sz es)) (n + 1)) = lstX dec (mkX R n) ++ [dec fun p => (es.getD p.toNat (xI 0)).y] := by
 rw [lstX_cat h0 (by omega), lstX_one]
theorem lstX_nil (dec : (Int → Y) → α) (R : Int → Int → Y) : lstX dec (mkX R 0) = [] := rfl
theorem lstX_sh {lo : Int} (h0 : 0 ≤ lo) (h1 : lo + m ≤ n) (h2 : 0 ≤ m) : lstX dec (mkX (rwSh R lo) m) = ((lstX dec (mkX R n)).drop lo.toNat).take m.toNat := by
 apply List.ext_getElem?
 intro i
 by_cases hi : i < m.toNat
 ·rw [lstX_get (x := mkX (rwSh R lo) m) hi, List.getElem?_take, if_pos hi, List.getElem?_drop, lstX_get (x := mkX R n) (show lo.toNat + i < n.toNat by omega)]
  congr 2
  show R ((i : Int) + lo) = R ((lo.toNat + i : Nat) : Int)
  rw [show (i : Int) + lo = ((lo.toNat + i : Nat) : Int) by omega]
 ·rw [List.getElem?_eq_none (by rw [lstX_len]; show m.toNat ≤ i; omega), List.getElem?_take, if_neg hi]
end
def deI (f : Int → Y) : Int := (f 0).i
def enI (n : Int) (_ : Int) : Y := ⟨n, false, .nilIface⟩
def deB (f : Int → Y) : Bool := (f 0).b
def enB (b : Bool) (_ : Int) : Y := ⟨0, b, .nilIface⟩
section
variable {R S : Int → Int → Y} {n m i : Int}
theorem deI_set {e : X} (h0 : 0 ≤ i) : lstX deI (mkX (rwSet R i 0 e) n) = (lstX deI (mkX R n)).set i.toNat e.i := by
 apply List.ext_getElem?
 intro j
 rw [List.getElem?_set, lstX_len]
 by_cases hj : j < n.toNat
 ·rw [lstX_get (x := mkX (rwSet R i 0 e) n) hj]
  have e1 : deI ((mkX (rwSet R i 0 e) n).r j) = if (j : Int) = i ∧ (0 : Int) = 0 then e.i else (R j 0).i := by
   show (if (j : Int) = i ∧ (0 : Int) = 0 then e.y else R j 0).i = _
   split <;> rfl
  rw [e1]
  by_cases hji : i.toNat = j
  ·rw [if_pos hji, if_pos (by omega), show (mkX R n).i.toNat = n.toNat from rfl, if_pos (show i.toNat < n.toNat by omega)]
  ·rw [if_neg hji, if_neg (by omega), lstX_get (x := mkX R n) hj]; rfl
 ·rw [List.getElem?_eq_none (by rw [lstX_len]; show n.toNat ≤ j; omega)]
  by_cases hji : i.toNat = j
  ·rw [if_pos hji, show (mkX R n).i.toNat = n.toNat from rfl, if_neg (show ¬ i.toNat < n.toNat by omega)]
  ·rw [if_neg hji, List.getElem?_eq_none (by rw [lstX_len]; show n.toNat ≤ j; omega)]
theorem deB_set {e : X} (h0 : 0 ≤ i) : lstX deB (mkX (rwSet R i 0 e) n) = (lstX deB (mkX R n)).set i.toNat e.b := by
 apply List.ext_getElem?
 intro j
 rw [List.getElem?_set, lstX_len]
 by_cases hj : j < n.toNat
 ·rw [lstX_get (x := mkX (rwSet R i 0 e) n) hj]
  have e1 : deB ((mkX (rwSet R i 0 e) n).r j) = if (j : Int) = i ∧ (0 : Int) = 0 then e.b else (R j 0).b := by
   show (if (j : Int) = i ∧ (0 : Int) = 0 then e.y else R j 0).b = _
   split <;> rfl
  rw [e1]
  by_cases hji : i.toNat = j
  ·rw [if_pos hji, if_pos (by omega), show (mkX R n).i.toNat = n.toNat from rfl, if_pos (show i.toNat < n.toNat by omega)]
  ·rw [if_neg hji, if_neg (by omega), lstX_get (x := mkX R n) hj]; rfl
 ·rw [List.getElem?_eq_none (by rw [lstX_len]; show n.toNat ≤ j; omega)]
  by_cases hji : i.toNat = j
  ·rw [if_pos hji, show (mkX R n).i.toNat = n.toNat from rfl, if_neg (show ¬ i.toNat < n.toNat by omega)]
  ·rw [if_neg hji, List.getElem?_eq_none (by rw [lstX_len]; show n.toNat ≤ j; omega)]
theorem eqEl_int {k : IntKind} {lo hi : Int} (f : Int → Y) : eqEl [.int k lo hi] (enI (deI f)) f 0 := ⟨rfl, trivial⟩
theorem eqEl_bool (f : Int → Y) : eqEl [.bool] (enB (deB f)) f 0 := ⟨rfl, trivial⟩
end
def deP (f : Int → Y) : Int × Int × Int := ((f 0).i, (f 1).i, (f 2).i)
def enP (q : Int × Int × Int) (p : Int) : Y := ⟨if p = 0 then q.1 else if p = 1 then q.2.1 else q.2.2, false, .nilIface⟩
theorem deP_enP (q : Int × Int × Int) : deP (enP q) = q := rfl
theorem eqEl_P {k0 k1 k2 : IntKind} {a b c d e g : Int} (f : Int → Y) : eqEl [.int k0 a b, .int k1 c d, .int k2 e g] (enP (deP f)) f 0 := ⟨rfl, rfl, rfl, trivial⟩
theorem deP_push (x y z : X) : deP (fun p => ([x, y, z].getD p.toNat (xI 0)).y) = (x.i, y.i, z.i) := rfl
end Vc
end Go.Proofs.YtelbilnnmmbmdaaDoor
