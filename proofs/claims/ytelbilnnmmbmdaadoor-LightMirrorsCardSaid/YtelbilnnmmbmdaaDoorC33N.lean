/- Layer 33, plain: lists of lights. -/
import Derived.Test.YtelbilnnmmbmdaaDoorC33C
import Derived.Test.YtelbilnnmmbmdaaDoorC07N
namespace Go.Proofs.YtelbilnnmmbmdaaDoor
namespace Vc
open Go Go.RowKit
set_option linter.unusedVariables false
theorem at_rsh (ds : Ds) (h : rshX [RGw, RLt, RP64] ds) (hp : Px 1231 ds) : rshX [RGv, RLt, RP64] ds := by
 refine val_rsh ds h ?_
 match ds, hp with
 | [a, b, c, d, e, f, l, o, x, y, z], hp => exact hp.1
theorem kn_rsh (ds : Ds) (h : rshX [RGw, RKn, RPw] ds) (hp : Px 1232 ds) : rshX [RGv, RKn, RPw] ds := by
 refine val_rsh ds h ?_
 match ds, hp with
 | [a, b, c, d, e, f, l, o, x, y, z], hp => exact hp.1
theorem okC_iff {g : Gr} {t k : X} : okC g t k = true ↔ validG g = true ∧ (chkT t).2 = 0 ∧ (k.i = 0 ∨ k.i = g.cs.length) := by
 unfold okC
 rw [Bool.and_eq_true, Bool.and_eq_true, Bool.or_eq_true, decide_eq_true_eq, decide_eq_true_eq, decide_eq_true_eq, and_assoc]
theorem cl_rsh (ds : Ds) (h : rshX [RGw, RMt, RKn, RLv, RP20] ds) (hp : Px 1233 ds) : rshX [RGv, RMt, RKn, RLv, RP20] ds := by
 refine val_rsh ds h ?_
 match ds, hp with
 | [a, b, c, d, e, f, l, t, k, o, x, y, z], hp => exact (okC_iff.1 hp.1).1
theorem st_rsh (ds : Ds) (h : rshX [RGw, RMt, RKn, RLv] ds) (hp : Px 1230 ds) : rshX [RGv, RMt, RKn, RLv] ds := by
 refine val_rsh ds h ?_
 match ds, hp with
 | [a, b, c, d, e, f, l, t, k, o], hp => exact (okC_iff.1 hp.1).1
theorem fu_rsh (ds : Ds) (h : rshX [RGw, RMt, RKn] ds) (hp : Px 1238 ds) : rshX [RGv, RMt, RKn] ds := by
 refine val_rsh ds h ?_
 match ds, hp with
 | [a, b, c, d, e, f, l, t, k], hp => exact (okC_iff.1 hp).1
theorem smeL_iff {n : Nat} {F G : Int → Int → Int} : smeL n F G = true ↔ ∀ k : Nat, k < n → (F k 0 = G k 0) ∧ ((F k 1 = G k 1) ∧ ((F k 2 = G k 2) ∧ (F k 3 = G k 3))) := by
 unfold smeL
 rw [List.all_eq_true]
 simp only [List.mem_range, Bool.and_eq_true, decide_eq_true_eq]
theorem sme_iff {v w : X} (h : 0 ≤ v.i) : smeX v w = true ↔ v.i = w.i ∧ ∀ k : Nat, (k : Int) < v.i → eqLt v w k := by
 unfold smeX
 rw [Bool.and_eq_true, decide_eq_true_eq, smeL_iff]
 exact and_congr_right fun _ => ⟨fun hk k hi => hk k (by omega), fun hk k hi => hk k (by omega)⟩
theorem lesL_iff {n : Nat} {F G : Int → Int → Int} : lesL n F G = true ↔ ∀ k : Nat, k < n → (F k 0 ≤ G k 0) ∧ ((F k 1 ≤ G k 1) ∧ ((F k 2 ≤ G k 2) ∧ (F k 3 ≤ G k 3))) := by
 unfold lesL
 rw [List.all_eq_true]
 simp only [List.mem_range, Bool.and_eq_true, decide_eq_true_eq]
 exact ⟨fun h k hk => ⟨(h k hk).1.1.1, (h k hk).1.1.2, (h k hk).1.2, (h k hk).2⟩, fun h k hk => ⟨⟨⟨(h k hk).1, (h k hk).2.1⟩, (h k hk).2.2.1⟩, (h k hk).2.2.2⟩⟩
theorem les_iff {v w : X} (h : 0 ≤ v.i) : lesX v w = true ↔ v.i = w.i ∧ ∀ k : Nat, (k : Int) < v.i → leLt v w k := by
 unfold lesX
 rw [Bool.and_eq_true, decide_eq_true_eq, lesL_iff]
 exact and_congr_right fun _ => ⟨fun hk k hi => hk k (by omega), fun hk k hi => hk k (by omega)⟩
end Vc
end Go.Proofs.YtelbilnnmmbmdaaDoor
