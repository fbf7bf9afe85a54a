/- Layer 19, plain: prisms turn with their boxes. -/
import Derived.Test.YtipcadjfhndcnaaDoorC19O
import Derived.Test.YtipcadjfhndcnaaDoorC04U
namespace Go.Proofs.YtipcadjfhndcnaaDoor
namespace Vc
open Go Go.RowKit
set_option linter.unusedVariables false

theorem iv_tab : ((List.range 48).all fun a => (List.range 48).all fun b => decide (ivB (cmB (a : Nat) (b : Nat)) = cmB (ivB (b : Nat)) (ivB (a : Nat)))) = true := by decide +kernel
theorem ivT_tab : ((List.range 48).all fun a => decide (inT (ivB (a : Nat)))) = true := by decide +kernel
theorem iv_inT {s : Int} (h : inT s) : inT (ivB s) := by
  have es : ((s.toNat : Nat) : Int) = s := by unfold inT at h; omega
  have := of_decide_eq_true (List.all_eq_true.1 ivT_tab s.toNat (by simpa using inT_nat h))
  rw [es] at this
  exact this
theorem iv_cm {a b : Int} (ha : inT a) (hb : inT b) : ivB (cmB a b) = cmB (ivB b) (ivB a) := by
  have ea : ((a.toNat : Nat) : Int) = a := by unfold inT at ha; omega
  have eb : ((b.toNat : Nat) : Int) = b := by unfold inT at hb; omega
  have := of_decide_eq_true (all48 iv_tab (inT_nat ha) (inT_nat hb))
  rw [ea, eb] at this
  exact this
theorem iv_back {y t : Int} (hy : inT y) (ht : inT t) : cmB (ivB (cmB y t)) y = ivB t := by
  rw [iv_cm hy ht, cm_assoc (iv_inT ht) (iv_inT hy) hy, (unit_ok hy).2.2.2, (unit_ok (iv_inT ht)).1]
section
variable {a b c d e f s t : Int}
theorem tl_cm (hs : inT s) (ht : inT t) {k : Nat} (hk : k < 3) (n : neB a b c d e f) : tlB (cmB s t) k a b c d e f = tlB s k (tlB t 0 a b c d e f) (tlB t 1 a b c d e f) (tlB t 2 a b c d e f) (thB t 0 a b c d e f) (thB t 1 a b c d e f) (thB t 2 a b c d e f) := by
  have hi := cm_inT hs ht
  have h := cm_ax (inT_nat hs) (inT_nat ht) hk
  have hm := tAx_lt (inT_nat hs) hk
  have hp := pick_fun (fun m => tlB t m a b c d e f) hm
  have hq := pick_fun (fun m => thB t m a b c d e f) hm
  rw [cm_in hs ht] at hi ⊢
  rw [show tlB s k (tlB t 0 a b c d e f) (tlB t 1 a b c d e f) (tlB t 2 a b c d e f) (thB t 0 a b c d e f) (thB t 1 a b c d e f) (thB t 2 a b c d e f) = if tNg s.toNat k then 0 - pick (thB t 0 a b c d e f) (thB t 1 a b c d e f) (thB t 2 a b c d e f) (tAx s.toNat k) else pick (tlB t 0 a b c d e f) (tlB t 1 a b c d e f) (tlB t 2 a b c d e f) (tAx s.toNat k) from (if_pos hs).trans (if_pos (ne_t ht n)), hp, hq]
  unfold tlB thB
  rw [if_pos hi, if_pos n, if_pos ht, if_pos n, if_pos ht, if_pos n, Int.toNat_natCast, h.1, h.2]
  cases tNg s.toNat k <;> cases tNg t.toNat (tAx s.toNat k) <;> simp <;> omega
theorem th_cm (hs : inT s) (ht : inT t) {k : Nat} (hk : k < 3) (n : neB a b c d e f) : thB (cmB s t) k a b c d e f = thB s k (tlB t 0 a b c d e f) (tlB t 1 a b c d e f) (tlB t 2 a b c d e f) (thB t 0 a b c d e f) (thB t 1 a b c d e f) (thB t 2 a b c d e f) := by
  have hi := cm_inT hs ht
  have h := cm_ax (inT_nat hs) (inT_nat ht) hk
  have hm := tAx_lt (inT_nat hs) hk
  have hp := pick_fun (fun m => tlB t m a b c d e f) hm
  have hq := pick_fun (fun m => thB t m a b c d e f) hm
  rw [cm_in hs ht] at hi ⊢
  rw [show thB s k (tlB t 0 a b c d e f) (tlB t 1 a b c d e f) (tlB t 2 a b c d e f) (thB t 0 a b c d e f) (thB t 1 a b c d e f) (thB t 2 a b c d e f) = if tNg s.toNat k then 0 - pick (tlB t 0 a b c d e f) (tlB t 1 a b c d e f) (tlB t 2 a b c d e f) (tAx s.toNat k) else pick (thB t 0 a b c d e f) (thB t 1 a b c d e f) (thB t 2 a b c d e f) (tAx s.toNat k) from (if_pos hs).trans (if_pos (ne_t ht n)), hp, hq]
  unfold tlB thB
  rw [if_pos hi, if_pos n, if_pos ht, if_pos n, if_pos ht, if_pos n, Int.toNat_natCast, h.1, h.2]
  cases tNg s.toNat k <;> cases tNg t.toNat (tAx s.toNat k) <;> simp <;> omega
end
/-- A turned box. -/
def Bx.turn (p : Bx) (y : Int) : Bx := ⟨tlB y 0 p.a p.b p.c p.d p.e p.f, tlB y 1 p.a p.b p.c p.d p.e p.f, tlB y 2 p.a p.b p.c p.d p.e p.f, thB y 0 p.a p.b p.c p.d p.e p.f, thB y 1 p.a p.b p.c p.d p.e p.f, thB y 2 p.a p.b p.c p.d p.e p.f⟩
theorem back_turn {p : Bx} {y t : Int} (hy : inT y) (ht : inT t) (n : neB p.a p.b p.c p.d p.e p.f) : (p.turn y).back (cmB y t) = p.back t := by
  have hw : inT (ivB (cmB y t)) := iv_inT (cm_inT hy ht)
  unfold Bx.back Bx.turn
  simp only
  rw [← tl_cm hw hy (by omega) n, ← tl_cm hw hy (by omega) n, ← tl_cm hw hy (by omega) n, ← th_cm hw hy (by omega) n, ← th_cm hw hy (by omega) n, ← th_cm hw hy (by omega) n, iv_back hy ht]
theorem prm_turn {p : Bx} {y t : Int} {q : Int × Int × Int} (hy : inT y) (ht : inT t) (n : neB p.a p.b p.c p.d p.e p.f) : prmB (p.turn y) (cmB y t) (tcB y 0 q.1 q.2.1 q.2.2, tcB y 1 q.1 q.2.1 q.2.2, tcB y 2 q.1 q.2.1 q.2.2) = prmB p t q := by
  have hw : inT (ivB (cmB y t)) := iv_inT (cm_inT hy ht)
  unfold prmB
  simp only
  rw [back_turn hy ht n, ← tc_cm hw hy (by omega), ← tc_cm hw hy (by omega), iv_back hy ht]
/-- A cell is in a prism exactly if the turned cell is in the turned prism. -/
theorem inPrm_turn {a b c d e f x y z s t : Int} (hs : inT s) (ht : inT t) :
    (decide (inT (cmB s t)) && decide (inB (tcB s 0 x y z) (tcB s 1 x y z) (tcB s 2 x y z) (tlB s 0 a b c d e f) (tlB s 1 a b c d e f) (tlB s 2 a b c d e f) (thB s 0 a b c d e f) (thB s 1 a b c d e f) (thB s 2 a b c d e f)) && prmB ⟨tlB s 0 a b c d e f, tlB s 1 a b c d e f, tlB s 2 a b c d e f, thB s 0 a b c d e f, thB s 1 a b c d e f, thB s 2 a b c d e f⟩ (cmB s t) (tcB s 0 x y z, tcB s 1 x y z, tcB s 2 x y z)) =
    (decide (inT t) && decide (inB x y z a b c d e f) && prmB ⟨a, b, c, d, e, f⟩ t (x, y, z)) := by
  have e1 : decide (inT (cmB s t)) = true := decide_eq_true (cm_inT hs ht)
  have e2 : decide (inT t) = true := decide_eq_true ht
  rw [e1, e2, Bool.true_and, Bool.true_and]
  have hin := in_t (a := a) (b := b) (c := c) (d := d) (e := e) (f := f) hs x y z
  by_cases h : inB x y z a b c d e f
  · rw [decide_eq_true (hin.2 h), decide_eq_true h, Bool.true_and, Bool.true_and]
    exact prm_turn (p := ⟨a, b, c, d, e, f⟩) (q := (x, y, z)) hs ht (inB_ne h)
  · rw [decide_eq_false (fun k => h (hin.1 k)), decide_eq_false h, Bool.false_and, Bool.false_and]
/-! ### Lists in order, cell by cell -/
theorem incB_snoc : ∀ (L : List (Int × Int × Int)) (p q : Int × Int × Int), incB (L ++ [p, q]) = (incB (L ++ [p]) && ltP p q)
  | [], p, q => by show (ltP p q && true) = (true && ltP p q); rw [Bool.and_true, Bool.true_and]
  | [a], p, q => by show (ltP a p && (ltP p q && true)) = ((ltP a p && true) && ltP p q); rw [Bool.and_true, Bool.and_true]
  | a :: b :: L, p, q => by
    have := incB_snoc (b :: L) p q
    show (ltP a b && incB (b :: L ++ [p, q])) = ((ltP a b && incB (b :: L ++ [p])) && ltP p q)
    rw [this, Bool.and_assoc]
theorem incB_take : ∀ (L : List (Int × Int × Int)) (n : Nat), incB L = true → incB (L.take n) = true
  | [], n, _ => by simp [incB]
  | [a], 0, _ => rfl
  | [a], n + 1, _ => by simp [incB]
  | a :: b :: L, 0, _ => rfl
  | a :: b :: L, 1, _ => rfl
  | a :: b :: L, n + 2, h => by
    have h' : (ltP a b && incB (b :: L)) = true := h
    rw [Bool.and_eq_true] at h'
    show (ltP a b && incB ((b :: L).take (n + 1))) = true
    rw [h'.1, Bool.true_and]
    exact incB_take (b :: L) (n + 1) h'.2
theorem inc_step {l : X} {k : Int} (h0 : 1 ≤ k) (h1 : k < l.i) : incB ((lstX deP l).take (k + 1).toNat) = (incB ((lstX deP l).take k.toNat) && ltP (deP (l.r (k - 1))) (deP (l.r k))) := by
  have e := lst_take (l := l) (k := k - 1) (by omega) (by omega)
  rw [show k - 1 + 1 = k by omega] at e
  rw [lst_take (by omega) h1, e, List.append_assoc]
  exact incB_snoc _ _ _
theorem P522 {l k : X} : Px 522 [l, k] = (1 ≤ k.i ∧ (k.i ≤ l.i ∨ k.i = 1) ∧ incB ((lstX deP l).take k.i.toNat) = true) := rfl
theorem inc_one (l : X) : incB ((lstX deP l).take (1 : Int).toNat) = true := by
  show incB ((lstX deP l).take 1) = true
  match lstX deP l with
  | [] => rfl
  | _ :: _ => rfl
end Vc
end Go.Proofs.YtipcadjfhndcnaaDoor
