/- What the machine's frames stand for. -/
import Derived.Test.YtelbilnnmmbmdaaDoorVdM
import Derived.RangeFuncNested
namespace Go.Proofs.YtelbilnnmmbmdaaDoor
namespace Vc
open Go Go.RowKit
set_option linter.unusedVariables false
section
variable {F : Fence} {k : Nat} {P : Program} {Q : Exit → Act → World → Prop} {a : Act} {w : World}
theorem wpIn_loop_n {c : Code} (I : Nat → Act → World → Prop) {n : Nat} (h₀ : I n a w)
 (round : ∀ n a w, I n a w → c.wpIn F k P (Exit.then (fun a' w' => ∃ n', n' < n ∧ I n' a' w') Q) a w) : (Code.loop c).wpIn F k P Q a w := by
 intro b kk cs hro hb hr
 have key : ∀ j a w, I j a w →
  ∃ e a' w', Q e a' w' ∧ ArrivesIn (Machine.fenced P F) P (lone (b.atR a (.code c :: .inLoop c :: kk)) cs w) b kk cs e a' w' := by
  intro j
  induction j using Nat.strongRecOn with
  | _ j ih =>
   intro a w hI
   obtain ⟨e, a₁, w₁, hq, harr⟩ := round j a w hI b (.inLoop c :: kk) cs hro hb hr
   cases e with
   | normal =>
    obtain ⟨n', hlt, hI₁⟩ := hq
    obtain ⟨e₂, a₂, w₂, hq₂, harr₂⟩ := ih n' hlt a₁ w₁ hI₁
    exact ⟨e₂, a₂, w₂, hq₂, .of_steps (StepsIn.trans harr (.one (fenced_calm hb hr rfl) stepR_inLoop)) harr₂⟩
   | exit id => exact ⟨_, a₁, w₁, hq, .pass (x := .inLoop c) rfl (fun _ _ => .inl (by simp)) harr⟩
   | goto l => exact ⟨_, a₁, w₁, hq, .pass (x := .inLoop c) rfl (fun _ _ => .inl (by simp)) harr⟩
   | ret => exact ⟨_, a₁, w₁, hq, .pass (x := .inLoop c) rfl (fun _ _ => .inl (by simp)) harr⟩
   | panic ch => exact ⟨_, a₁, w₁, hq, .pass (x := .inLoop c) rfl (fun _ _ => .inl (by simp)) harr⟩
   | outgrown => exact ⟨_, a₁, w₁, hq, .pass (x := .inLoop c) rfl (fun _ _ => .inl (by simp)) harr⟩
 obtain ⟨e, a', w', hq, harr⟩ := key _ a w h₀
 exact ⟨e, a', w', hq, .of_steps (.one (fenced_calm hb hr rfl) stepR_loop) harr⟩
theorem stepR_scope {b : Frame} {kk : List Item} {cs : List Frame} {c : Code} : step P (lone (b.atR a (.code (.scope c) :: kk)) cs w) = .next (lone (b.atR a (.code c :: .inScope c :: kk)) cs w) :=
 step_lone_go (by simp [stepG, stepG.exec, Frame.atR])
theorem stepR_inScope {b : Frame} {kk : List Item} {cs : List Frame} {c : Code} : step P (lone (b.atR a (.inScope c :: kk)) cs w) = .next (lone (b.atR a kk) cs w) :=
 step_lone_go (by simp [stepG, stepG.exec, Frame.atR])
theorem wpIn_scope_straight {c : Code} (h : c.wpIn F k P (Exit.noGoto Q) a w) : (Code.scope c).wpIn F k P Q a w := by
 intro b kk cs hro hb hr
 obtain ⟨e, a₁, w₁, hq, harr⟩ := h b (.inScope c :: kk) cs hro hb hr
 have s0 : StepsIn (Machine.fenced P F) P (lone (b.atR a (.code (.scope c) :: kk)) cs w) (lone (b.atR a (.code c :: .inScope c :: kk)) cs w) := .one (fenced_calm hb hr rfl) stepR_scope
 cases e with
 | normal => exact ⟨.normal, a₁, w₁, hq, StepsIn.trans s0 (StepsIn.trans harr (.one (fenced_calm hb hr rfl) stepR_inScope))⟩
 | exit id => exact ⟨.exit id, a₁, w₁, hq, fun k' hk => StepsIn.trans s0 (harr.1 k' (by simp [exitTo, hk])), fun h1 h2 => let ⟨k₁, g1, g2⟩ := harr.2 h1 (by simp [exitTo, h2]); ⟨k₁, g1, StepsIn.trans s0 g2⟩⟩
 | goto l => exact hq.elim
 | ret => exact ⟨_, a₁, w₁, hq, .of_steps s0 harr⟩
 | panic ch => exact ⟨_, a₁, w₁, hq, .of_steps s0 harr⟩
 | outgrown => exact ⟨_, a₁, w₁, hq, .of_steps s0 harr⟩
end
section
variable {P : Program} {ρ : Env} {B : Nat} {w0 w : World} {ls : Ls} {hp : SH} {tm : Tms} {a : Act} {G : E} {cf : Cfg}
theorem owsF_ok {L : Env → SV → SH → Prop} {f : Fm} : ∀ {ps : List (E × Ow)}, (owsF ps f).holds L ρ → (∀ x ∈ ps, evB ρ x.1 = true → x.2.Ok ρ) ∧ f.holds L ρ
 | [], h => ⟨(fun x hx => by cases hx), h⟩
 | (G, o) :: r, h => by
  obtain ⟨h1, h2⟩ := owF_ok h
  obtain ⟨i1, i2⟩ := owsF_ok h2
  refine ⟨fun x hx hG => ?_, i2⟩
  rcases List.mem_cons.1 hx with rfl | hx
  ·exact h1 hG
  ·exact i1 x hx hG
theorem assume_ok {e : E} {s : St} {ls : Ls} {a : Act} {w : World} (he : evB ρ e = true) (hr : RTm ρ ls s.tm a) (hh : HOk ρ B w0 ls s.hp w) : RTm ρ ls (assume e s).tm a ∧ HOk ρ B w0 ls (assume e s).hp w :=
 ⟨⟨hr.1, fun d t hd ht => by obtain ⟨x, h1, rfl⟩ := Tr.get_map ht; exact rfTm_ok (fun _ hf => conjs_true he hf) (hr.2 d x hd h1)⟩, hh.rf fun _ hf => conjs_true he hf⟩
theorem evB_eNot (e : E) : evB ρ (eNot e) = !evB ρ e := ev_eNot ρ e
theorem factsN_ok {e : E} {neg : List E} (he : evB ρ e = true) (hn : ∀ x ∈ neg, evB ρ x = false) : ∀ f ∈ factsN e neg, evB ρ f = true := fun f hf => by
 rcases List.mem_append.1 hf with hf | hf
 ·exact conjs_true he hf
 ·exact derive_ok (fun f hf => conjs_true he hf) hn f hf
theorem assumeN_ok {e : E} {s : St} {ls : Ls} {a : Act} {w : World} (he : evB ρ e = true) (hn : ∀ x ∈ s.neg, evB ρ x = false) (hr : RTm ρ ls s.tm a) (hh : HOk ρ B w0 ls s.hp w) : RTm ρ ls (assumeN e s).tm a ∧ HOk ρ B w0 ls (assumeN e s).hp w :=
 ⟨⟨hr.1, fun d t hd ht => by obtain ⟨x, h1, rfl⟩ := Tr.get_map ht; exact rfTm_ok (factsT_ok hr (factsN_ok he hn)) (hr.2 d x hd h1)⟩, hh.rf (factsT_ok hr (factsN_ok he hn))⟩
theorem assumeN_neg {e : E} {s : St} (he : evB ρ e = true) (hn : ∀ x ∈ s.neg, evB ρ x = false) : ∀ x ∈ (assumeN e s).neg, evB ρ x = false := fun x hx => by
 rcases List.mem_cons.1 hx with rfl | hx
 ·rw [evB_eNot, he]; rfl
 ·rcases List.mem_append.1 hx with hx | hx
  ·obtain ⟨y, hy, rfl⟩ := List.mem_map.1 hx
   rw [evB_eNot, derive_ok (fun f hf => conjs_true he hf) hn y hy]; rfl
  ·exact hn x hx
theorem act_defers {a : Act} {ds : List Deferred} (hd : a.defers = ds) (dst : Option Tmp) (v : Value) : (a.put dst v).defers = ds := by cases dst <;> exact hd
theorem all2_pv {ls : Ls} : ∀ {ps : List PV} {vs : List Value}, All2 (RP ls) ps vs → All2 (RV ρ ls) (ps.map pvS) vs
 | [], [], _ => trivial
 | _ :: _, _ :: _, h => ⟨h.1, all2_pv h.2⟩
theorem setAll_ok : ∀ {vs : List SV} {t : Tr} {i d : Nat} {y : Tm}, (setAll t i vs).get d = some y → (∃ j v, d = i + j ∧ vs[j]? = some v ∧ y = ⟨.bc true, v⟩) ∨ (t.get d = some y ∧ (d < i ∨ i + vs.length ≤ d))
 | [], t, i, d, y, h => .inr ⟨h, by simp; omega⟩
 | v :: r, t, i, d, y, h => by
  have h' : (setAll (t.set i ⟨.bc true, v⟩) (i + 1) r).get d = some y := h
  rcases setAll_ok (vs := r) h' with ⟨j, v', h1, h2, h3⟩ | ⟨h1, h2⟩
  ·exact .inl ⟨j + 1, v', by omega, by simpa using h2, h3⟩
  ·rcases Tr.get_set h1 with ⟨rfl, rfl⟩ | ⟨hne, h1'⟩
   ·exact .inl ⟨0, v, rfl, rfl, rfl⟩
   ·exact .inr ⟨h1', by simp only [List.length_cons]; omega⟩
theorem initT_ok {ls : Ls} {vs : List SV} {us : List Value} {n : Nat} {a : Act} (h : All2 (RV ρ ls) vs us) (ha : a.tmps = us.toArray ++ Array.replicate (n - us.length) undef) : RTm ρ ls (initT n vs) a := by
 have hl := h.len
 refine ⟨by rw [ha]; simp [initT, hl], fun d t hd ht => ?_⟩
 rw [ha]
 rcases setAll_ok ht with ⟨j, v, h1, h2, rfl⟩ | ⟨h1, h2⟩
 ·obtain ⟨u, hu, hr⟩ := h.get h2
  have hj : j < us.length := (List.getElem?_eq_some_iff.1 hu).1
  have e : (us.toArray ++ Array.replicate (n - us.length) undef).getD d undef = u := by
   rw [Array.getD_eq_getD_getElem?, Array.getElem?_append_left (by simp; omega)]
   rw [show d = j by omega]
   simp [hu]
  rw [e]; exact RT_true hr
 ·have hge : us.length ≤ d := by omega
  have e : (us.toArray ++ Array.replicate (n - us.length) undef).getD d undef = undef := by
   rw [Array.getD_eq_getD_getElem?, Array.getElem?_append_right (by simpa using hge), Array.getElem?_replicate]
   split <;> rfl
  rw [e, Tr.get_full h1]; exact RT_und
theorem RTm_wk {k : Nat → Option Loop} : RTm (ρ.wk k) ls tm a ↔ RTm ρ ls tm a := by unfold RTm; rw [RT_wk]
theorem CfgOk.wk (h : CfgOk P ρ cf) (k : Nat → Option Loop) : CfgOk P (ρ.wk k) cf := ⟨h.eq, h.globs, h.F, h.mixed, h.fns, h.ctr, h.fn, h.rctr, h.pb⟩
theorem HOk.agree {ρ' : Env} {M : Nat} (h : HOk ρ B w0 ls hp w) (ha : Agree M ρ ρ') (hv : hp.all (HE.av (fun _ => true) M) = true) (hk : ∀ (i : Nat) (x : HE) st pd, hp[i]? = some x → x.k = .lrec st pd → ρ'.k i = ρ.k i) : HOk ρ' B w0 ls hp w where
 below := h.below
 base := h.base
 len := h.len
 glob := by rw [ha.g]; exact h.glob
 ent := fun i x hx => by
  have hx' := List.all_eq_true.1 hv x (List.mem_of_getElem? hx)
  have he := h.ent i x hx
  have hki := fun st pd => hk i x st pd hx
  obtain ⟨wr, ty, k⟩ := x
  cases k with
  | lrec st pd =>
   obtain ⟨hw, L, r, h1, h2, h3⟩ := he
   exact ⟨hw, L, r, h1, (hki st pd rfl).trans h2, h3⟩
  | mark => exact he
  | iter s q hi =>
   simp only [HE.av, Bool.and_eq_true] at hx'
   obtain ⟨hw, L, str, h1, h2⟩ := he
   refine ⟨hw, L, str, h1, ?_⟩
   unfold evI at h2 ⊢
   rw [ev_agree ha hx'.1, ev_agree ha hx'.2]; exact h2
  | mset R n hi =>
   simp only [HE.av, Bool.and_eq_true] at hx'
   obtain ⟨hw, L, es, clock, h1, h2⟩ := he
   refine ⟨hw, L, es, clock, h1, ?_⟩
   unfold evI evR at h2 ⊢
   rw [ev_agree ha hx'.1, ev_agree ha hx'.2]; exact h2
  | farr l o =>
   simp only [HE.av, Bool.and_eq_true] at hx'
   obtain ⟨hw, L, vs, cs, h1, h0, h2, h3, h4, h5⟩ := he
   refine ⟨hw, L, vs, cs, h1, h0, h2, h3, h4, fun j hj => h5 j fun e he => ?_⟩
   subst he
   have := hj e rfl
   unfold evI at this ⊢
   rw [ev_agree ha hx'.2] at this; exact this
  | fam K Q s hi =>
   obtain ⟨hw, vs, h1, h2, h3, h4⟩ := he
   refine ⟨hw, vs, h1, h2, fun j hj => ?_, h4⟩
   unfold evR at h3 ⊢
   rw [ev_agree ha hx']; exact h3 j hj
  | dead => trivial
  | cells cs =>
   obtain ⟨x, vs, h1, h2, h3⟩ := he
   exact ⟨x, vs, h1, RSs.move (p := fun _ => true) (m := M) (ρ := ρ) (ρ' := ρ'.wk ρ.k) ⟨⟨ha.x, ha.f, ha.p, ha.g⟩, fun _ _ => rfl, fun _ _ => rfl⟩ hx' h2 |> (fun q => by rw [RS_wk] at q; exact q), h3⟩
  | row sh R n hi =>
   simp only [HE.av, Bool.and_eq_true] at hx'
   have eR := ev_agree ha hx'.1
   have en := ev_agree ha hx'.2
   unfold EntOk evI evR at *
   simp only at he ⊢
   rw [en, eR]; exact he
  | grow sz cs =>
   obtain ⟨hw, h0, A, n, c, vs, h1, h2, h3, h4⟩ := he
   exact ⟨hw, h0, A, n, c, vs, h1, h2, RSs.move (p := fun _ => true) (m := M) (ρ := ρ) (ρ' := ρ'.wk ρ.k) ⟨⟨ha.x, ha.f, ha.p, ha.g⟩, fun _ _ => rfl, fun _ _ => rfl⟩ hx' h3 |> (fun q => by rw [RS_wk] at q; exact q), h4⟩
 inj := fun i j x y b hx hy lx bi bj => h.inj i j x y b hx hy lx bi ⟨bj.1, bj.2.1, fun hw => by
  have h3 := bj.2.2 hw
  have hx' := List.all_eq_true.1 hv y (List.mem_of_getElem? hy)
  obtain ⟨wr, ty, k⟩ := y
  cases k <;> try trivial
  simp only [HE.av, Bool.and_eq_true] at hx'
  have en := ev_agree ha hx'.2
  unfold evI at h3 ⊢
  simp only at h3 ⊢
  rw [en] at h3; exact h3⟩
theorem RTm.agree {ρ' : Env} {M : Nat} (h : RTm ρ ls tm a) (ha : Agree M ρ ρ') (hv : tm.av (fun _ => true) M = true) : RTm ρ' ls tm a := by
 have := RTm.move (p := fun _ => true) (m := M) (ρ := ρ) (ρ' := ρ'.wk ρ.k) (ls' := ls) ⟨⟨ha.x, ha.f, ha.p, ha.g⟩, fun _ _ => rfl, fun _ _ => rfl⟩ hv h
 rwa [RTm_wk] at this
def MkR (ls : Ls) (m : Nat) (d : Deferred) : Prop := ∃ D, ls[m]? = some (.pointer (some ⟨D, 0, none⟩)) ∧ d = { target := .collected D, args := #[] }
def DfR (ls : Ls) (df : List Nat) (ds : List Deferred) : Prop := All2 (MkR ls) df ds
theorem MkR.ext {ls ls' : Ls} (h : Ext ls ls') {m : Nat} {d : Deferred} (k : MkR ls m d) : MkR ls' m d := let ⟨D, h1, h2⟩ := k; ⟨D, h _ _ h1, h2⟩
theorem DfR.ext {ls ls' : Ls} (h : Ext ls ls') {df : List Nat} {ds : List Deferred} (k : DfR ls df ds) : DfR ls' df ds := All2.mono (fun _ _ => MkR.ext h) k
theorem DfR.move {ls ls' : Ls} {p : Nat → Bool} (h : ∀ l, p l = true → ls'[l]? = ls[l]?) : ∀ {df : List Nat} {ds : List Deferred}, df.all p = true → DfR ls df ds → DfR ls' df ds
 | [], [], _, _ => trivial
 | m :: df, d :: ds, hp, ⟨⟨D, h1, h2⟩, k⟩ => by
  simp only [List.all_cons, Bool.and_eq_true] at hp
  exact ⟨⟨D, by rw [h _ hp.1]; exact h1, h2⟩, DfR.move h hp.2 k⟩
theorem DfR.uniq {ls : Ls} : ∀ {df : List Nat} {ds ds' : List Deferred}, DfR ls df ds → DfR ls df ds' → ds = ds'
 | [], [], [], _, _ => rfl
 | m :: df, d :: ds, d' :: ds', ⟨⟨D, h1, h2⟩, k⟩, ⟨⟨D', h1', h2'⟩, k'⟩ => by
  rw [h1] at h1'
  cases h1'
  rw [h2, h2', DfR.uniq k k']
def RdR (ls : Ls) (rd : Option Nat) (r : Option Nat) : Prop := match rd with
 | none => r = none
 | some l => ∃ L, ls[l]? = some (.pointer (some ⟨L, 0, none⟩)) ∧ r = some L
theorem RdR.ext {ls ls' : Ls} (h : Ext ls ls') {rd r : Option Nat} (k : RdR ls rd r) : RdR ls' rd r := by
 cases rd with
 | none => exact k
 | some l => obtain ⟨L, h1, h2⟩ := k; exact ⟨L, h _ _ h1, h2⟩
theorem RdR.move {ls ls' : Ls} {p : Nat → Bool} (h : ∀ l, p l = true → ls'[l]? = ls[l]?) {rd r : Option Nat} (hp : rdP p rd = true) (k : RdR ls rd r) : RdR ls' rd r := by
 cases rd with
 | none => exact k
 | some l => obtain ⟨L, h1, h2⟩ := k; exact ⟨L, by rw [h _ hp]; exact h1, h2⟩
def actR (P : Program) (r : Option Nat) (all : Bool × Array Oper) (rest : List Oper) (dst : Option Tmp) (a : Act) (Q : Exit → Act → World → Prop) : Ending → World → Prop :=
 afterCall (fun a' w' => wpRest r P all Q rest a' w') Q a dst
def measN (L : LSpec) (A : List E) (ρ : Env) : Nat := (ρ.f L.meas (ev ρ (argL L A)).l).i.toNat
def LInv (B : Nat) (w0 : World) (L : LSpec) (h : St) (mv : List (Nat × Nat)) (A : List E) (ds : List Deferred) (ρ0 : Env) (ls0 : Ls) (n : Nat) (a : Act) (w : World) : Prop :=
 ∃ ys ls', ys.length = L.k ∧ Moved (unm h.hp.length mv) L.m ρ0 (ρ0.setxs L.m ys) ls0 ls' ∧ RTm (ρ0.setxs L.m ys) ls' h.tm a ∧ a.defers = ds ∧ HOk (ρ0.setxs L.m ys) B w0 ls' h.hp w ∧
  ρ0.p L.pre (ev (ρ0.setxs L.m ys) (argL L A)).l ∧ n = measN L A (ρ0.setxs L.m ys)
structure PmOk (all : Array Oper) (tm : Tms) (k n c : Nat) (ps : List Nat) (its : List It) (dn : List Nat) (L : Array Bool) : Prop where
 chk : chkC all tm k c n = true
 val : ∀ it ∈ its, it.isVal = true
 len : its.length = n
 inv : HeadInv .any all n L
 lo : ∀ i, i < k → L.getD i true = true
 dn : ∀ i ∈ dn, L.getD i true = true
 pd : ∀ i ∈ c :: ps, L.getD i true = false
 rdy : c ∈ Region.ready .any all L
 rng : ∀ x ∈ ps, k ≤ x ∧ x < n
 not : c ∉ ps
def Cont (P : Program) (B : Nat) (w0 : World) (fn0 : Func) (R0 : Ending → World → Prop) : Env → Ls → Option Nat → List Fr → (Exit → Act → World → Prop) → Prop
 | _, _, r, [], Q => r = none ∧ Q = bodyPostM Fence.wide 0 P fn0 R0
 | ρ, ls, r, .seq c :: K, Q => ∃ Q', Cont P B w0 fn0 R0 ρ ls r K Q' ∧ Q = Exit.then (c.wpIn (fen r) 0 P Q') Q'
 | ρ, ls, r, .blk id :: K, Q => ∃ Q', Cont P B w0 fn0 R0 ρ ls r K Q' ∧ Q = Exit.inBlock id Q'
 | ρ, ls, r, .lp c n :: K, Q => ∃ Q', Cont P B w0 fn0 R0 ρ ls r K Q' ∧ Q = Exit.then (Code.roundsIn (fen r) 0 P c Q' n) Q'
 | ρ, ls, r, .scp :: K, Q => ∃ Q', Cont P B w0 fn0 R0 ρ ls r K Q' ∧ Q = Exit.noGoto Q'
 | ρ, ls, r, .inv L h mv A df0 :: K, Q => ∃ Q' ρ0 ls0 ds, Cont P B w0 fn0 R0 ρ ls r K Q' ∧ Moved (unm h.hp.length mv) L.m ρ0 ρ ls0 ls ∧ h.hp.length ≤ ls.length ∧ DfR ls df0 ds ∧ df0.all (unm h.hp.length mv) = true ∧ mv.all (isRow h.hp) = true ∧
  h.tm.av (fun _ => true) (L.m + L.k) = true ∧ h.hp.all (HE.av (fun _ => true) (L.m + L.k)) = true ∧ A.all (E.blw L.m) = true ∧
  Q = Exit.then (fun a' w' => ∃ n', n' < measN L A ρ ∧ LInv B w0 L h mv A ds ρ0 ls0 n' a' w') Q'
 | ρ, ls, r, .act _ fn tm df rd all rest dst :: K, Q => r = none ∧ ∃ Q' r' a' ds, Cont P B w0 fn0 R0 ρ ls r' K Q' ∧ RdR ls rd r' ∧ DfR ls df ds ∧ a'.defers = ds ∧ RTm ρ ls tm a' ∧ Q = bodyPostM Fence.wide 0 P fn (actR P r' all rest dst a' Q')
 | ρ, ls, r, .pc _ fn tm df rd all k c n its :: K, Q => r = none ∧ ∃ Q' r' a' ds L, Cont P B w0 fn0 R0 ρ ls r' K Q' ∧ RdR ls rd r' ∧ DfR ls df ds ∧ a'.defers = ds ∧ LstR ρ ls all its L n tm a' ∧ HeadInv .any all n L ∧ (∀ i, i < k → L.getD i true = true) ∧ L.getD c true = false ∧ c ∈ Region.ready .any all L ∧ chkC all tm k c n = true ∧
  Q = bodyPostM Fence.wide 0 P fn (afterCall (wpAnyIn (fen r') 0 P .any all Q' (unl (L.setIfInBounds c true) n + (all.size - n)) (L.setIfInBounds c true)) Q' a' (dstOf all c))
 | ρ, ls, r, .pm _ fn tm df rd all k n c ps its done :: K, Q => r = none ∧ ∃ Q' r' a' ds L, Cont P B w0 fn0 R0 ρ ls r' K Q' ∧ RdR ls rd r' ∧ DfR ls df ds ∧ a'.defers = ds ∧ LstR ρ ls all its L n tm a' ∧ PmOk all tm k n c ps its (done.map fun x => x.1) L ∧
  Q = bodyPostM Fence.wide 0 P fn (afterCall (wpAnyIn (fen r') 0 P .any all Q' (unl (L.setIfInBounds c true) n + (all.size - n)) (L.setIfInBounds c true)) Q' a' (dstOf all c))
 | ρ, ls, r, .rng _ fn l ps asg body tm df rd :: K, Q => r = none ∧ ∃ Q' r' a' ds L rec, Cont P B w0 fn0 R0 ρ ls r' K Q' ∧ RdR ls rd r' ∧ DfR ls df ds ∧ a'.defers = ds ∧ RTm ρ ls tm a' ∧ ls[l]? = some (.pointer (some ⟨L, 0, none⟩)) ∧ ρ.k l = some rec ∧
  rec.params = ps ∧ rec.assign = asg ∧ rec.body = body ∧ rec.tmps = a'.tmps ∧ Q = bodyPostM Fence.wide 0 P fn (rangePost (fen r') 0 P L Q' a')
 | ρ, ls, r, .asg l body :: K, Q => ∃ Q' L, Cont P B w0 fn0 R0 ρ ls r K Q' ∧ ls[l]? = some (.pointer (some ⟨L, 0, none⟩)) ∧
  Q = Exit.then (fun a₁ w₁ => ∃ w₂, (Instr.beginRound L).run P w₁ = .ok () w₂ ∧ body.wpIn (fen r) 0 P Q' a₁ w₂) (fun _ _ _ => False)
 | ρ, ls, r, .rnd l tm df rd all rest dst :: K, Q => ∃ Q' r' a' ds L, Cont P B w0 fn0 R0 ρ ls r' K Q' ∧ RdR ls rd r' ∧ DfR ls df ds ∧ a'.defers = ds ∧ RTm ρ ls tm a' ∧ ls[l]? = some (.pointer (some ⟨L, 0, none⟩)) ∧
  Q = roundPost P L (actR P r' all rest dst a' Q')
def GoalC (P : Program) (r : Option Nat) (Q : Exit → Act → World → Prop) (a : Act) (w : World) : Ctl → Prop
 | .code c => c.wpIn (fen r) 0 P Q a w
 | .ops all rest => wpRest r P all Q rest a w
 | .nrm => Q .normal a w
 | .ex id => Q (.exit id) a w
 | .ret => Q .ret a w
variable {fn0 : Func} {R0 : Ending → World → Prop}
theorem ext_le {ls ls' : Ls} (h : Ext ls ls') : ls.length ≤ ls'.length := by
 rcases Nat.lt_or_ge ls'.length ls.length with hl | hl
 ·have h1 : ls[ls'.length]? = some ls[ls'.length] := List.getElem?_eq_getElem hl
  have := h _ _ h1
  simp at this
 ·exact hl
theorem Moved.ext {p : Nat → Bool} {m : Nat} {ρ0 ρ : Env} {ls0 ls ls' : Ls} {n : Nat} (h : Moved p m ρ0 ρ ls0 ls) (he : Ext ls ls') (hp : ∀ l, p l = true → l < n) (hn : n ≤ ls.length) : Moved p m ρ0 ρ ls0 ls' :=
 ⟨h.ag, fun l hl => by
   rw [← h.ls l hl]
   have hlt : l < ls.length := by have := hp l hl; omega
   have h1 : ls[l]? = some ls[l] := List.getElem?_eq_getElem hlt
   rw [h1, he _ _ h1], h.k⟩
theorem unm_lt {n l : Nat} {mv : List (Nat × Nat)} (h : unm n mv l = true) : l < n := (sig_unm h).2
theorem Cont.ext {ls' : Ls} (h : Ext ls ls') : ∀ {K : List Fr} {r : Option Nat} {Q : Exit → Act → World → Prop}, Cont P B w0 fn0 R0 ρ ls r K Q → Cont P B w0 fn0 R0 ρ ls' r K Q
 | [], _, _, k => k
 | .seq _ :: _, _, _, ⟨Q', k, e⟩ => ⟨Q', Cont.ext h k, e⟩
 | .blk _ :: _, _, _, ⟨Q', k, e⟩ => ⟨Q', Cont.ext h k, e⟩
 | .lp _ _ :: _, _, _, ⟨Q', k, e⟩ => ⟨Q', Cont.ext h k, e⟩
 | .scp :: _, _, _, ⟨Q', k, e⟩ => ⟨Q', Cont.ext h k, e⟩
 | .inv .. :: _, _, _, ⟨Q', ρ0, ls0, ds, k, k1, k2, k3, k4, e⟩ => ⟨Q', ρ0, ls0, ds, Cont.ext h k, k1.ext h (fun _ => unm_lt) k2, Nat.le_trans k2 (ext_le h), k3.ext h, k4, e⟩
 | .act .. :: _, _, _, ⟨e0, Q', r', a', ds, k, k1, k2, k3, k4, e⟩ => ⟨e0, Q', r', a', ds, Cont.ext h k, k1.ext h, k2.ext h, k3, k4.ext h, e⟩
 | .pc .. :: _, _, _, ⟨e0, Q', r', a', ds, L, k, k1, k2, k3, k4, e⟩ => ⟨e0, Q', r', a', ds, L, Cont.ext h k, k1.ext h, k2.ext h, k3, k4.ext h, e⟩
 | .pm .. :: _, _, _, ⟨e0, Q', r', a', ds, L, k, k1, k2, k3, k4, e⟩ => ⟨e0, Q', r', a', ds, L, Cont.ext h k, k1.ext h, k2.ext h, k3, k4.ext h, e⟩
 | .rng .. :: _, _, _, ⟨e0, Q', r', a', ds, L, rec, k, k1, k2, k3, k4, k5, e⟩ => ⟨e0, Q', r', a', ds, L, rec, Cont.ext h k, k1.ext h, k2.ext h, k3, k4.ext h, h _ _ k5, e⟩
 | .asg .. :: _, _, _, ⟨Q', L, k, k1, e⟩ => ⟨Q', L, Cont.ext h k, h _ _ k1, e⟩
 | .rnd .. :: _, _, _, ⟨Q', r', a', ds, L, k, k1, k2, k3, k4, k5, e⟩ => ⟨Q', r', a', ds, L, Cont.ext h k, k1.ext h, k2.ext h, k3, k4.ext h, h _ _ k5, e⟩
theorem Tms.weak_ok {ρ : Env} {ls : Ls} {tm : Tms} {a : Act} {p : Nat → Bool} {m : Nat} (hr : RTm ρ ls tm a) : RTm ρ ls (tm.weak p m) a := ⟨hr.1, fun d t hd ht => by
 obtain ⟨x, h1, rfl⟩ := Tr.get_map ht
 split
 ·exact hr.2 d x hd h1
 ·exact RT_unk _⟩
theorem Cont.weak {p : Nat → Bool} {m : Nat} : ∀ {K : List Fr} {r : Option Nat} {Q : Exit → Act → World → Prop}, Cont P B w0 fn0 R0 ρ ls r K Q → Cont P B w0 fn0 R0 ρ ls r (K.map (weakFr p m)) Q
 | [], _, _, k => k
 | .seq _ :: _, _, _, ⟨Q', k, e⟩ => ⟨Q', Cont.weak k, e⟩
 | .blk _ :: _, _, _, ⟨Q', k, e⟩ => ⟨Q', Cont.weak k, e⟩
 | .lp _ _ :: _, _, _, ⟨Q', k, e⟩ => ⟨Q', Cont.weak k, e⟩
 | .scp :: _, _, _, ⟨Q', k, e⟩ => ⟨Q', Cont.weak k, e⟩
 | .inv .. :: _, _, _, ⟨Q', ρ0, ls0, ds, k, k1, k2, k3, k4, e⟩ => ⟨Q', ρ0, ls0, ds, Cont.weak k, k1, k2, k3, k4, e⟩
 | .act .. :: _, _, _, ⟨e0, Q', r', a', ds, k, k1, k2, k3, k4, e⟩ => ⟨e0, Q', r', a', ds, Cont.weak k, k1, k2, k3, Tms.weak_ok k4, e⟩
 | .pc .. :: _, _, _, ⟨e0, Q', r', a', ds, L, k, k1, k2, k3, k4, e⟩ => ⟨e0, Q', r', a', ds, L, Cont.weak k, k1, k2, k3, k4, e⟩
 | .pm .. :: _, _, _, ⟨e0, Q', r', a', ds, L, k, k1, k2, k3, k4, e⟩ => ⟨e0, Q', r', a', ds, L, Cont.weak k, k1, k2, k3, k4, e⟩
 | .rng .. :: _, _, _, ⟨e0, Q', r', a', ds, L, rec, k, k1, k2, k3, k4, k5, e⟩ => ⟨e0, Q', r', a', ds, L, rec, Cont.weak k, k1, k2, k3, Tms.weak_ok k4, k5, e⟩
 | .asg .. :: _, _, _, ⟨Q', L, k, k1, e⟩ => ⟨Q', L, Cont.weak k, k1, e⟩
 | .rnd .. :: _, _, _, ⟨Q', r', a', ds, L, k, k1, k2, k3, k4, k5, e⟩ => ⟨Q', r', a', ds, L, Cont.weak k, k1, k2, k3, Tms.weak_ok k4, k5, e⟩
theorem Cont.weakK {L : LSpec} {d : Hd} {K : List Fr} {r : Option Nat} {Q : Exit → Act → World → Prop} (h : Cont P B w0 fn0 R0 ρ ls r K Q) : Cont P B w0 fn0 R0 ρ ls r (weakK L d K) Q := by
 unfold Vc.weakK
 split
 ·exact h
 ·exact h.weak
theorem lt_of_some {ls : Ls} {l : Nat} {v : Value} (h : ls[l]? = some v) : l < ls.length := (List.getElem?_eq_some_iff.1 h).1
theorem measN_wk {L : LSpec} {A : List E} {k : Nat → Option Loop} : measN L A (ρ.wk k) = measN L A ρ := by
 unfold measN
 rw [ev_wk]; rfl
theorem Cont.wk {k' : Nat → Option Loop} (h : ∀ i, i < ls.length → k' i = ρ.k i) : ∀ {K : List Fr} {r : Option Nat} {Q : Exit → Act → World → Prop}, Cont P B w0 fn0 R0 ρ ls r K Q → Cont P B w0 fn0 R0 (ρ.wk k') ls r K Q
 | [], _, _, k => k
 | .seq _ :: _, _, _, ⟨Q', k, e⟩ => ⟨Q', Cont.wk h k, e⟩
 | .blk _ :: _, _, _, ⟨Q', k, e⟩ => ⟨Q', Cont.wk h k, e⟩
 | .lp _ _ :: _, _, _, ⟨Q', k, e⟩ => ⟨Q', Cont.wk h k, e⟩
 | .scp :: _, _, _, ⟨Q', k, e⟩ => ⟨Q', Cont.wk h k, e⟩
 | .inv .. :: _, _, _, ⟨Q', ρ0, ls0, ds, k, k1, k2, k3, k4, k5, k6, k7, k8, e⟩ => ⟨Q', ρ0, ls0, ds, Cont.wk h k, ⟨⟨k1.ag.x, k1.ag.f, k1.ag.p, k1.ag.g⟩, k1.ls, fun l hl => (h l (by have := unm_lt hl; omega)).trans (k1.k l hl)⟩, k2, k3, k4, k5, k6, k7, k8, by rw [measN_wk]; exact e⟩
 | .act .. :: _, _, _, ⟨e0, Q', r', a', ds, k, k1, k2, k3, k4, e⟩ => ⟨e0, Q', r', a', ds, Cont.wk h k, k1, k2, k3, RTm_wk.2 k4, e⟩
 | .pc .. :: _, _, _, ⟨e0, Q', r', a', ds, L, k, k1, k2, k3, k4, e⟩ => ⟨e0, Q', r', a', ds, L, Cont.wk h k, k1, k2, k3, LstR_wk k4, e⟩
 | .pm .. :: _, _, _, ⟨e0, Q', r', a', ds, L, k, k1, k2, k3, k4, e⟩ => ⟨e0, Q', r', a', ds, L, Cont.wk h k, k1, k2, k3, LstR_wk k4, e⟩
 | .rng .. :: _, _, _, ⟨e0, Q', r', a', ds, L, rec, k, k1, k2, k3, k4, k5, k6, e⟩ => ⟨e0, Q', r', a', ds, L, rec, Cont.wk h k, k1, k2, k3, RTm_wk.2 k4, k5, (h _ (lt_of_some k5)).trans k6, e⟩
 | .asg .. :: _, _, _, ⟨Q', L, k, k1, e⟩ => ⟨Q', L, Cont.wk h k, k1, e⟩
 | .rnd .. :: _, _, _, ⟨Q', r', a', ds, L, k, k1, k2, k3, k4, k5, e⟩ => ⟨Q', r', a', ds, L, Cont.wk h k, k1, k2, k3, RTm_wk.2 k4, k5, e⟩
theorem blw_argE {m : Nat} : ∀ {es : List E}, es.all (E.blw m) = true → (argE es).blw m = true
 | [], _ => rfl
 | e :: r, h => by
  simp only [List.all_cons, Bool.and_eq_true] at h
  simp only [argE, E.blw, Bool.and_eq_true]
  exact ⟨h.1, blw_argE h.2⟩
theorem blw_varL {M : Nat} : ∀ {n j : Nat}, j + n ≤ M → (varL j n).all (E.blw M) = true
 | 0, _, _ => rfl
 | n + 1, j, h => by
  simp only [varL, List.all_cons, Bool.and_eq_true, E.blw, decide_eq_true_eq]
  exact ⟨by omega, blw_varL (by omega)⟩
theorem E.blw_mono {m m' : Nat} (h : m ≤ m') {e : E} (he : e.blw m = true) : e.blw m' = true := by
 induction e <;> simp only [E.blw, Bool.and_eq_true, decide_eq_true_eq] at he ⊢ <;> (try simp_all) <;> omega
theorem blw_all_mono {m m' : Nat} (h : m ≤ m') {es : List E} (he : es.all (E.blw m) = true) : es.all (E.blw m') = true := by
 rw [List.all_eq_true] at *
 exact fun x hx => E.blw_mono h (he x hx)
theorem blw_argL {L : LSpec} {A : List E} {M : Nat} (hA : A.all (E.blw M) = true) (hM : L.m + L.k ≤ M) : (argL L A).blw M = true := by
 unfold argL
 refine blw_argE ?_
 rw [List.all_append, Bool.and_eq_true]
 exact ⟨hA, blw_varL hM⟩
theorem measN_agree {L : LSpec} {A : List E} {M : Nat} {ρ' : Env} (h : Agree M ρ ρ') (hA : A.all (E.blw M) = true) (hM : L.m + L.k ≤ M) : measN L A ρ' = measN L A ρ := by
 unfold measN
 rw [ev_agree h (blw_argL hA hM), h.f]
theorem Cont.move {n m : Nat} {mv : List (Nat × Nat)} {ρ' : Env} {ls' : Ls} (h : Moved (unm n mv) m ρ ρ' ls ls') (hn : n ≤ ls'.length) : ∀ {K : List Fr} {r : Option Nat} {Q : Exit → Act → World → Prop}, avK n mv m K = true → Cont P B w0 fn0 R0 ρ ls r K Q → Cont P B w0 fn0 R0 ρ' ls' r K Q
 | [], _, _, _, k => k
 | .seq _ :: _, _, _, hv, ⟨Q', k, e⟩ => ⟨Q', Cont.move h hn hv k, e⟩
 | .blk _ :: _, _, _, hv, ⟨Q', k, e⟩ => ⟨Q', Cont.move h hn hv k, e⟩
 | .lp _ _ :: _, _, _, hv, ⟨Q', k, e⟩ => ⟨Q', Cont.move h hn hv k, e⟩
 | .scp :: _, _, _, hv, ⟨Q', k, e⟩ => ⟨Q', Cont.move h hn hv k, e⟩
 | .inv L hd mv0 A df0 :: _, _, _, hv, ⟨Q', ρ0, ls0, ds, k, k1, k2, k3, k4, k5, k6, k7, k8, e⟩ => by
  simp only [avK, Bool.and_eq_true] at hv
  obtain ⟨⟨⟨⟨⟨v1, v2⟩, v3⟩, v4⟩, v5⟩, v6⟩ := hv
  have v1 := Nat.le_of_ble_eq_true v1
  have v3 := Nat.le_of_ble_eq_true v3
  have sub : ∀ l, unm hd.hp.length mv0 l = true → unm n mv l = true := fun l hl => by
   have hlt := unm_lt hl
   simp only [unm, Bool.and_eq_true, Bool.not_eq_true'] at hl ⊢
   refine ⟨(by simp; omega), List.any_eq_false.2 fun x hx => ?_⟩
   have := List.all_eq_true.1 v2 x hx
   simp only [Bool.or_eq_true] at this
   intro hxl
   have hxl := Nat.eq_of_beq_eq_true hxl
   subst hxl
   rcases this with h1 | h1
   ·have := Nat.le_of_ble_eq_true h1; omega
   ·obtain ⟨y, hy, hyx⟩ := List.any_eq_true.1 h1
    exact List.any_eq_false.1 hl.2 y hy hyx
  refine ⟨Q', ρ0, ls0, ds, Cont.move h hn v6 k, ⟨k1.ag.trans (h.ag.mono (by omega)), fun l hl => (h.ls l (sub l hl)).trans (k1.ls l hl), fun l hl => (h.k l (sub l hl)).trans (k1.k l hl)⟩, by omega, k3.move h.ls v5, k4, k5, k6, k7, k8, ?_⟩
  rw [measN_agree h.ag v4 v3]; exact e
 | .act .. :: _, _, _, hv, ⟨e0, Q', r', a', ds, k, k1, k2, k3, k4, e⟩ => by
  simp only [avK, Bool.and_eq_true] at hv
  obtain ⟨⟨⟨v1, v2⟩, v3⟩, v4⟩ := hv
  exact ⟨e0, Q', r', a', ds, Cont.move h hn v4 k, k1.move h.ls v3, k2.move h.ls v2, k3, k4.move h v1, e⟩
 | .pc .. :: _, _, _, hv, ⟨e0, Q', r', a', ds, L, k, k1, k2, k3, k4, e⟩ => by
  simp only [avK, Bool.and_eq_true] at hv
  obtain ⟨⟨⟨⟨v1, v0⟩, v2⟩, v3⟩, v4⟩ := hv
  exact ⟨e0, Q', r', a', ds, L, Cont.move h hn v4 k, k1.move h.ls v3, k2.move h.ls v2, k3, k4.move h v1 v0, e⟩
 | .pm .. :: _, _, _, hv, ⟨e0, Q', r', a', ds, L, k, k1, k2, k3, k4, e⟩ => by
  simp only [avK, Bool.and_eq_true] at hv
  obtain ⟨⟨⟨⟨v1, v0⟩, v2⟩, v3⟩, v4⟩ := hv
  exact ⟨e0, Q', r', a', ds, L, Cont.move h hn v4 k, k1.move h.ls v3, k2.move h.ls v2, k3, k4.move h v1 v0, e⟩
 | .rng .. :: _, _, _, hv, ⟨e0, Q', r', a', ds, L, rec, k, k1, k2, k3, k4, k5, k6, e⟩ => by
  simp only [avK, Bool.and_eq_true] at hv
  obtain ⟨⟨⟨⟨v0, v1⟩, v2⟩, v3⟩, v4⟩ := hv
  exact ⟨e0, Q', r', a', ds, L, rec, Cont.move h hn v4 k, k1.move h.ls v3, k2.move h.ls v2, k3, k4.move h v1, (h.ls _ v0).trans k5, (h.k _ v0).trans k6, e⟩
 | .asg .. :: _, _, _, hv, ⟨Q', L, k, k1, e⟩ => by
  simp only [avK, Bool.and_eq_true] at hv
  exact ⟨Q', L, Cont.move h hn hv.2 k, (h.ls _ hv.1).trans k1, e⟩
 | .rnd .. :: _, _, _, hv, ⟨Q', r', a', ds, L, k, k1, k2, k3, k4, k5, e⟩ => by
  simp only [avK, Bool.and_eq_true] at hv
  obtain ⟨⟨⟨⟨v0, v1⟩, v2⟩, v3⟩, v4⟩ := hv
  exact ⟨Q', r', a', ds, L, Cont.move h hn v4 k, k1.move h.ls v3, k2.move h.ls v2, k3, k4.move h v1, (h.ls _ v0).trans k5, e⟩
theorem leaves_ok {fn : Func} {tmps : Array Value} {R : Ending → World → Prop} : ∀ {df : List Nat} {hp hp' : SH} {ds : List Deferred} {w : World}, takeMk hp df = some hp' → DfR ls df ds → HOk ρ B w0 ls hp w →
 (∀ w', HOk ρ B w0 ls hp' w' → ∃ v, (results fn tmps).run P w' = .ok v w' ∧ R (.returned v) w') → LeavesInM Fence.wide 0 P fn tmps R ds .returning w
 | [], hp, hp', [], w, h, _, hh, hk => by cases h; exact hk w hh
 | d :: df, hp, hp', d0 :: ds, w, h, ⟨⟨D, e1, e2⟩, hd⟩, hh, hk => by
  simp only [takeMk] at h
  split at h
  ·rename_i b ty hm
   obtain ⟨hb, D', g1, g2, g3⟩ := hh.ent d _ hm
   rw [e1] at g1
   cases g1
   have hb : b = true := hb
   subst hb
   refine ⟨by simp, .inl ⟨D, w.putObj D (.deferred none), by rw [e2], run_takeDeferred g3, ?_⟩⟩
   exact leaves_ok h hd (hh.turn hm rfl (w' := w.putObj D (.deferred none)) (row := some D) ⟨rfl, rfl, rfl, by simp [World.putObj], fun k _ hk => World.putObj_heap_other (fun e => hk (by rw [e]))⟩ (.inr ⟨_, rfl, .inl (by rw [e1]; rfl)⟩) trivial) hk
  ·cases h
 | [], _, _, _ :: _, _, _, h, _, _ => h.elim
 | _ :: _, _, _, [], _, _, h, _, _ => h.elim
theorem retV_ok {s : St} {df : List Nat} {fn : Func} {v : SV} {hp' : SH} {ds : List Deferred} {R : Ending → World → Prop} (h : retV P cf s df fn = some (v, hp')) (hg : cf.globs = ρ.g) (hr : RTm ρ ls s.tm a) (hd : DfR ls df ds) (hds : a.defers = ds) (hh : HOk ρ B w0 ls s.hp w)
 (hk : ∀ z w', RV ρ ls v z → HOk ρ B w0 ls hp' w' → R (.returned z) w') : bodyPostM Fence.wide 0 P fn R .normal a w ∧ bodyPostM Fence.wide 0 P fn R .ret a w := by
 unfold retV at h
 split at h
 ·rename_i hp1 h1
  split at h
  ·rename_i v' hv
   cases h
   rw [hg] at hv
   have : LeavesInM Fence.wide 0 P fn a.tmps R a.defers .returning w := by
    rw [hds]
    exact leaves_ok h1 hd hh fun w' hw' => by
     obtain ⟨z, hz, hz'⟩ := resOf_ok hv hr hw'
     exact ⟨z, hz, hk z w' hz' hw'⟩
   exact ⟨this, this⟩
  ·cases h
 ·cases h
end
end Vc
end Go.Proofs.YtelbilnnmmbmdaaDoor
namespace Go.Proofs.YtelbilnnmmbmdaaDoor
namespace Vc
open Go Go.RowKit
set_option linter.unusedVariables false
section
variable {P : Program} {ρ : Env} {B : Nat} {w0 : World} {cf : Cfg}
theorem runQ_ok {r : Option Nat} {ds : List Deferred} {sm : Sm} {all : Array Oper} {hp : SH} {neg : List E} {ls : Ls} {Q : Exit → Act → World → Prop} (hsm : SmOk P ρ sm) (hc : CfgOk P ρ cf) (hneg : ∀ e ∈ neg, evB ρ e = false) : ∀ {l l' : List Oper} {tm tm' : Tms} {a : Act} {w : World}, runQ P cf sm hp neg all l tm = (l', tm') → RTm ρ ls tm a → a.defers = ds → HOk ρ B w0 ls hp w →
 (∀ a' w', RTm ρ ls tm' a' → a'.defers = ds → HOk ρ B w0 ls hp w' → wpListIn (fen r) 0 P all Q l' a' w') → wpListIn (fen r) 0 P all Q l a w
 | [], l', tm, tm', a, w, h, hr, hd, hh, hq => by cases h; exact hq a w hr hd hh
 | o :: rr, l', tm, tm', a, w, h, hr, hd, hh, hq => by
  simp only [runQ] at h
  split at h
  ·rename_i hg
   have hwd := guardOf_ok hg hr hneg
   exact wpIn_of_not hwd (runQ_ok hsm hc hneg h (hr.put _ RT_und) (act_defers hd _ _) hh hq)
  ·rename_i Gd hg
   have hwd := guardOf_ok hg hr hneg
   split at h
   ·rename_i v ow hv
    split at h
    ·rename_i how
     cases hGd : evB ρ Gd
     ·exact wpIn_of_not (hwd.trans hGd) (runQ_ok hsm hc hneg h (hr.put _ ⟨(fun e => by rw [show evB ρ Gd = true from e] at hGd; cases hGd), fun _ => rfl⟩) (act_defers hd _ _) hh hq)
     ·have hu := opQ2_ok (P := P) (a := a) (w := w) hsm hv hc (Ow.none_ok how) hr hGd hh
      refine wpIn_of_upon (hwd.trans hGd) (opIn_set hu hh fun z w' hz hw' => ?_)
      exact runQ_ok hsm hc hneg h (hr.put _ ⟨fun _ => nz_ok hneg hz, (fun e => by rw [show evB ρ Gd = false from e] at hGd; cases hGd)⟩) (act_defers hd _ _) hw' hq
    ·cases h; exact hq a w hr hd hh
   ·cases h; exact hq a w hr hd hh
  ·cases h; exact hq a w hr hd hh
theorem obsT_ok {L : Env → SV → SH → Prop} {f : Fm} {l : List E} (h : (obsF (.bc true) l f).holds L ρ) : (∀ e ∈ l, evB ρ e = true) ∧ f.holds L ρ := by
 obtain ⟨h1, h2⟩ := obsF_ok h
 exact ⟨h1 rfl, h2⟩
theorem allF_ok {L : Env → SV → SH → Prop} {f : Fm} : ∀ {n j : Nat} {ρ : Env}, (allF j n f).holds L ρ → ∀ ys : List X, ys.length = n → f.holds L (ρ.setxs j ys)
 | 0, j, ρ, h, [], _ => by rw [setxs_nil]; exact h
 | n + 1, j, ρ, h, y :: ys, hl => by
  have := allF_ok (h y) ys (by simpa using hl)
  rwa [setxs_cons] at this
theorem Pth.get_ok {tm : Tms} {hp : SH} {ls : Ls} {a : Act} {w : World} {x : Pth} {s : SC} (h : x.get tm hp = some s) (hr : RTm ρ ls tm a) (hh : HOk ρ B w0 ls hp w) : ∃ v, RS ρ ls s v := by
 cases x with
 | tmp d =>
  simp only [Pth.get] at h
  split at h
  ·rename_i g s' ht
   split at h
   ·rename_i hg
    cases h
    exact ⟨_, (hr.at ht).1.1 (isT_ok hg)⟩
   ·cases h
  ·cases h
 | part d j =>
  simp only [Pth.get] at h
  split at h
  ·rename_i g l ht
   split at h
   ·rename_i hg
    obtain ⟨vs, _, h2⟩ := (hr.at ht).1.1 (isT_ok hg)
    obtain ⟨v, _, hv⟩ := h2.get h
    exact ⟨v, hv⟩
   ·cases h
  ·cases h
 | ex e => cases h
 | cell l j =>
  simp only [Pth.get] at h
  split at h
  ·rename_i b ty cs hx
   obtain ⟨a', vs, _, h2, _⟩ := hh.ent l _ hx
   obtain ⟨v, _, hv⟩ := h2.get h
   exact ⟨v, hv⟩
  ·rename_i b ty s0 q hi hx
   cases h
   obtain ⟨_, L, str, _, _, _, _, _, h3, h4, h5⟩ := hh.ent l _ hx
   exact ⟨_, rfl, h3, by omega⟩
  ·cases h
 | own l =>
  simp only [Pth.get] at h
  split at h
  ·rename_i b ty sh R n hi hx
   cases h
   obtain ⟨A, c, h1, _⟩ := hh.ent l _ hx
   exact ⟨_, h1, _, _, _, rfl⟩
  ·rename_i b ty R n hi hx
   cases h
   obtain ⟨_, L, es, clock, h1, _⟩ := hh.ent l _ hx
   exact ⟨_, L, h1, rfl⟩
  ·cases h
 | ind d j =>
  simp only [Pth.get] at h
  split at h
  ·rename_i g l o ht
   split at h
   ·split at h
    ·rename_i b ty cs hx
     obtain ⟨a', vs, _, h2, _⟩ := hh.ent l _ hx
     obtain ⟨v, _, hv⟩ := h2.get h
     exact ⟨v, hv⟩
    ·cases h
   ·cases h
  ·cases h
 | fam l => cases h
 | mvp d => cases h
 | fgt d => cases h
theorem rngF_ok {L : Env → SV → SH → Prop} {h : St} {ls : Ls} {a : Act} {w : World} {f : Fm} (hr : RTm ρ ls h.tm a) (hh : HOk ρ B w0 ls h.hp w) : ∀ {xs : List Pth}, (rngF h xs f).holds L ρ → f.holds L ρ
 | [], hf => hf
 | x :: r, hf => by
  simp only [rngF] at hf
  split at hf
  ·rename_i k e lo hi hx
   obtain ⟨v, _, h1, h2⟩ := Pth.get_ok hx hr hh
   exact rngF_ok hr hh (hf ⟨h1, h2⟩)
  ·rename_i l hx
   split at hf
   ·rename_i b ty sh R n hi hl
    obtain ⟨A, c, _, h2, h3, _, _, h6, _⟩ := hh.ent l _ hl
    exact rngF_ok hr hh (hf ⟨h2, h3, h6⟩)
   ·exact rngF_ok hr hh hf
  ·exact rngF_ok hr hh hf
theorem Pth.put_ok {tm tm' : Tms} {hp hp' : SH} {ls : Ls} {a : Act} {w : World} {x : Pth} {s s' : SC} (hx : x.get tm hp = some s) (h : x.put s' (tm, hp) = some (tm', hp')) (hs : ∀ v, RS ρ ls s v → RS ρ ls s' v) (hr : RTm ρ ls tm a) (hh : HOk ρ B w0 ls hp w) : RTm ρ ls tm' a ∧ HOk ρ B w0 ls hp' w := by
 cases x with
 | tmp d =>
  simp only [Pth.get] at hx
  simp only [Pth.put] at h
  cases h
  split at hx
  ·rename_i g s0 ht
   split at hx
   ·rename_i hg
    cases hx
    refine ⟨hr.know fun e he => ?_, hh⟩
    cases he
    exact RT_true (hs _ ((hr.at ht).1.1 (isT_ok hg)))
   ·cases hx
  ·cases hx
 | part d j =>
  simp only [Pth.get] at hx
  simp only [Pth.put] at h
  split at hx
  ·rename_i g l ht
   rw [ht] at h
   cases h
   split at hx
   ·rename_i hg
    refine ⟨hr.know fun e he => ?_, hh⟩
    cases he
    obtain ⟨vs, h1, h2⟩ := (hr.at ht).1.1 (isT_ok hg)
    obtain ⟨v, hv, hrv⟩ := h2.get hx
    refine ⟨fun _ => ⟨vs, h1, ?_⟩, fun e => by rw [isT_ok hg] at e; cases e⟩
    have := h2.set j (hs v hrv)
    rwa [set_same hv] at this
   ·cases hx
  ·cases hx
 | ex e => cases hx
 | cell l j =>
  simp only [Pth.get] at hx
  simp only [Pth.put] at h
  split at hx
  ·rename_i b ty cs hl
   rw [hl] at h
   cases h
   refine ⟨hr, hh.weak hl ?_ (fun e => e) (fun b hb => ⟨hb.1, rfl, fun _ => trivial⟩)⟩
   obtain ⟨a', vs, h1, h2, h3⟩ := hh.ent l _ hl
   obtain ⟨v, hv, hrv⟩ := h2.get hx
   refine ⟨a', vs, h1, ?_, h3⟩
   have := h2.set j (hs v hrv)
   rwa [set_same hv] at this
  ·rename_i hl
   rw [hl] at h
   cases h
  ·cases hx
 | own l =>
  simp only [Pth.put] at h
  split at h
  ·split at h
   ·cases h; exact ⟨hr, hh⟩
   ·cases h
  ·cases h
 | ind d j => cases h
 | fam l => cases hx
 | mvp d => cases hx
 | fgt d => cases hx
theorem Pth.get_ext {x : Pth} {tm : Tms} {hp : SH} {s : SC} {e : HE} (h : x.get tm hp = some s) : x.get tm (hp ++ [e]) = some s := by
 cases x with
 | tmp d => exact h
 | part d j => exact h
 | ex e => cases h
 | cell l j =>
  simp only [Pth.get] at h ⊢
  split at h
  ·rename_i b ty cs hl
   rw [List.getElem?_append_left (List.getElem?_eq_some_iff.1 hl).1, hl]
   exact h
  ·rename_i b ty s0 q hi hl
   rw [List.getElem?_append_left (List.getElem?_eq_some_iff.1 hl).1, hl]
   exact h
  ·cases h
 | own l =>
  simp only [Pth.get] at h ⊢
  split at h
  ·rename_i b ty sh R n hi hl
   rw [List.getElem?_append_left (List.getElem?_eq_some_iff.1 hl).1, hl]
   exact h
  ·rename_i b ty R n hi hl
   rw [List.getElem?_append_left (List.getElem?_eq_some_iff.1 hl).1, hl]
   exact h
  ·cases h
 | ind d j =>
  simp only [Pth.get] at h ⊢
  split at h
  ·rename_i g l o ht
   by_cases hg : isT g = true
   ·rw [if_pos hg] at h ⊢
    split at h
    ·rename_i b ty cs hl
     rw [List.getElem?_append_left (List.getElem?_eq_some_iff.1 hl).1, hl]
     exact h
    ·cases h
   ·rw [if_neg hg] at h; cases h
  ·cases h
 | fam l => cases h
 | mvp d => cases h
 | fgt d => cases h
theorem promote_ok {x : Pth × TypeId × List Sk × Int} {s s' : Tms × SH} {ls : Ls} {a : Act} {w : World} (h : promote x s = some s') (hr : RTm ρ ls s.1 a) (hh : HOk ρ B w0 ls s.2 w) : ∃ ls', Ext ls ls' ∧ RTm ρ ls' s'.1 a ∧ HOk ρ B w0 ls' s'.2 w := by
 unfold promote at h
 split at h
 ·rename_i l hx
  split at h
  ·cases h; exact ⟨ls, Ext.refl _, hr, hh⟩
  ·split at h
   ·rename_i ty sh R n hi hl
    obtain ⟨A, c, hls, k1, k2, k3, k4, k5, _, k7⟩ := hh.ent l _ hl
    have hlt : l < ls.length := (List.getElem?_eq_some_iff.1 hls).1
    have hh' : HOk ρ B w0 (ls ++ [.slice A (evI ρ n).toNat c]) (s.2 ++ [⟨false, x.2.1, .row sh R n hi⟩]) w := by
     refine hh.join ⟨A, c, by simp, k1, k2, k3, k4, k5, (fun e => by cases e), k7⟩ (fun e => by cases e) (fun b hb i y hy hlv hbl => ?_)
     have hr2 : RdBlk ρ ls l ⟨false, ty, .row sh R n hi⟩ b := ⟨by rw [hls]; have := hb.1; simpa using this, hb.2.1, hb.2.2⟩
     have e := hh.inj i l y _ b hy hl hlv hbl hr2
     subst e
     rw [hl] at hy
     cases hy
     cases hlv
    have hx' := Pth.get_ext (e := ⟨false, x.2.1, .row sh R n hi⟩) hx
    have e : Ext ls (ls ++ [.slice A (evI ρ n).toNat c]) := Ext.snoc ls _
    obtain ⟨tm', hp'⟩ := s'
    obtain ⟨h1, h2⟩ := Pth.put_ok hx' h (fun v hv => by
     obtain ⟨hv1, hv2⟩ := hv
     rw [List.getElem?_append_left hlt, hls] at hv1
     refine ⟨?_, hv2⟩
     rw [← hv1, ← hh.len]
     simp) (hr.ext e) hh'
    exact ⟨_, e, h1, h2⟩
   ·cases h; exact ⟨ls, Ext.refl _, hr, hh⟩
 ·rename_i hx
  split at h
  ·rename_i hc
   simp only [Bool.and_eq_true, decide_eq_true_eq] at hc
   have hh' : HOk ρ B w0 (ls ++ [.slice none 0 0]) (s.2 ++ [⟨true, x.2.1, .row x.2.2.1 (.rtab 1 .nil) (.ic 0) x.2.2.2⟩]) w := by
    refine hh.push (grownBy_of_below (Below.refl _ _) none) ?_ (fun b e => by cases e.sl)
    exact ⟨none, 0, by simp [evI, ev, dI, xI], Int.le_refl _, hc.2, Nat.le_refl _, hc.1, fun i hi => by simp [evI, ev, dI, xI] at hi, fun _ => World.ownsRow_nil w B _ _, fun e => by cases e⟩
   have hx' := Pth.get_ext (e := ⟨true, x.2.1, .row x.2.2.1 (.rtab 1 .nil) (.ic 0) x.2.2.2⟩) hx
   have e : Ext ls (ls ++ [.slice none 0 0]) := Ext.snoc ls _
   obtain ⟨tm', hp'⟩ := s'
   obtain ⟨h1, h2⟩ := Pth.put_ok hx' h (fun v hv => by
    have hv : v = _ := hv
    subst hv
    exact ⟨by rw [← hh.len]; simp, none, 0, 0, rfl⟩) (hr.ext e) hh'
   exact ⟨_, e, h1, h2⟩
  ·cases h
 ·cases h
theorem isNilS_ok {c : SC} (h : isNilS c = true) : c = .cst (.slice none 0 0) := by
 unfold isNilS at h
 split at h
 ·rfl
 ·cases h
theorem promF_ok {x : Pth × TypeId × List Sk × Int} {s s' : Tms × SH} {ls : Ls} {a : Act} {w : World} (h : promF x s = some s') (hr : RTm ρ ls s.1 a) (hh : HOk ρ B w0 ls s.2 w) : ∃ ls', Ext ls ls' ∧ RTm ρ ls' s'.1 a ∧ HOk ρ B w0 ls' s'.2 w := by
 unfold promF at h
 split at h
 ·rename_i l ty sk hi
  split at h
  ·rename_i ty' cs hl
   split at h
   ·rename_i hc
    simp only [Bool.and_eq_true, decide_eq_true_eq] at hc
    obtain ⟨hc, h0⟩ := hc
    cases h
    obtain ⟨a', vs, q1, q2, q3, q4, _⟩ := hh.ent l _ hl
    obtain ⟨b, rfl, q5, q6⟩ := q4 rfl
    have hlen := q2.len
    have hv : ∀ (j : Nat) (u : Value), vs[j]? = some u → u = .slice none 0 0 := fun j u hu => by
     have hj : j < cs.length := by have := (List.getElem?_eq_some_iff.1 hu).1; omega
     have e1 : cs[j]? = some cs[j] := List.getElem?_eq_getElem hj
     obtain ⟨u', g1, g2⟩ := q2.get e1
     rw [hu] at g1
     cases g1
     rw [isNilS_ok (List.all_eq_true.1 hc _ (List.getElem_mem hj))] at g2
     exact g2
    have hev : Ext ls (ls ++ [.agg vs.toArray]) := Ext.snoc ls _
    have hll : l < ls.length := (List.getElem?_eq_some_iff.1 q1).1
    have h1 : HOk ρ B w0 (ls ++ [.agg vs.toArray]) (s.2 ++ [⟨true, ty, .fam cs.length (.rrep .nil) sk hi⟩]) w := by
     refine hh.push (grownBy_of_below (Below.refl _ _) none) ⟨rfl, vs.toArray, by simp, by simp [hlen], fun j hj => ?_, fun j j' u u' b hu _ hb _ => ?_⟩ (fun b hb => ?_)
     ·have hj' : j < vs.length := by omega
      have e1 : vs[j]? = some vs[j] := List.getElem?_eq_getElem hj'
      refine ⟨none, 0, 0, by simp [hj', hv j _ e1], rfl, h0, fun k hk => by omega, World.ownsRow_nil w B _ _⟩
     ·have := hv j u (by simpa using hu)
      subst this
      cases hb
     ·obtain ⟨j, a0, n, c, e1, _⟩ := hb.fam
      have := hv j _ (by simpa using e1)
      cases this
    refine ⟨_, hev, hr.ext hev, ?_⟩
    have hl' : (s.2 ++ [⟨true, ty, .fam cs.length (.rrep .nil) sk hi⟩])[l]? = some ⟨true, ty', .cells cs⟩ := by
     rw [List.getElem?_append_left (List.getElem?_eq_some_iff.1 hl).1]; exact hl
    have h2 := h1.turn (x' := ⟨true, ty', .farr s.2.length none⟩) hl' rfl (grownBy_of_below (Below.refl _ _) none) (.inl rfl) ⟨rfl, b, vs.toArray, vs.toArray, hev _ _ q1, by rw [← hh.len]; simp, q5, q6, rfl, fun _ _ => rfl⟩
    rwa [List.set_append_left _ _ (List.getElem?_eq_some_iff.1 hl).1] at h2
   ·cases h
  ·cases h; exact ⟨ls, Ext.refl _, hr, hh⟩
  ·cases h
 ·split at h
  ·cases h; exact ⟨ls, Ext.refl _, hr, hh⟩
  ·exact promote_ok h hr hh
 ·exact promote_ok h hr hh
theorem promotes_ok {a : Act} {w : World} : ∀ {xs : List (Pth × TypeId × List Sk × Int)} {s s' : Tms × SH} {ls : Ls}, promotes xs s = some s' → RTm ρ ls s.1 a → HOk ρ B w0 ls s.2 w → ∃ ls', Ext ls ls' ∧ RTm ρ ls' s'.1 a ∧ HOk ρ B w0 ls' s'.2 w
 | [], s, s', ls, h, hr, hh => by cases h; exact ⟨ls, Ext.refl _, hr, hh⟩
 | x :: r, s, s', ls, h, hr, hh => by
  simp only [promotes] at h
  split at h
  ·rename_i s1 h1
   obtain ⟨ls1, e1, hr1, hh1⟩ := promF_ok h1 hr hh
   obtain ⟨ls2, e2, hr2, hh2⟩ := promotes_ok h hr1 hh1
   exact ⟨ls2, e1.trans e2, hr2, hh2⟩
  ·cases h
theorem headOf_s1 {L : LSpec} {c : Code} {s : St} {d : Hd} (h : headOf L c s = some d) : promotes L.rows (s.tm, s.hp) = some (d.s1.tm, d.s1.hp) ∧ d.s1.neg = s.neg ∧ d.h.neg = s.neg.filter (E.blw L.m) := by
 unfold headOf at h
 split at h
 ·rename_i s1 h1
  split at h
  ·split at h
   ·split at h
    ·cases h; exact ⟨h1, rfl, rfl⟩
    ·cases h
   ·cases h
  ·cases h
 ·cases h
theorem ev_varL {ρ : Env} {ys : List X} : ∀ {n j : Nat}, (∀ i y, ys[i]? = some y → ρ.x (j + i) = y) → ys.length = n → (varL j n).map (fun e => (ev ρ e).x) = ys
 | 0, j, h, hl => by cases ys with | nil => rfl | cons _ _ => simp at hl
 | n + 1, j, h, hl => by
  cases ys with
  | nil => simp at hl
  | cons y ys =>
   simp only [varL, List.map_cons]
   rw [show (ev ρ (E.var j)).x = y from h 0 y rfl]
   congr 1
   refine ev_varL (ρ := ρ) (ys := ys) (n := n) (j := j + 1) (fun i z hi => ?_) (by simpa using hl)
   have := h (i + 1) z (by simpa using hi)
   rwa [show j + (i + 1) = j + 1 + i by omega] at this
theorem map_agree {M : Nat} {ρ ρ' : Env} (h : Agree M ρ ρ') : ∀ {es : List E}, es.all (E.blw M) = true → es.map (fun e => (ev ρ' e).x) = es.map fun e => (ev ρ e).x
 | [], _ => rfl
 | e :: r, he => by
  simp only [List.all_cons, Bool.and_eq_true] at he
  simp only [List.map_cons]
  rw [ev_agree h he.1, map_agree h he.2]
theorem argL_at {L : LSpec} {A : List E} {ρ ρ0 : Env} {θ : List E} (hA : A.all (E.blw L.m) = true) (ha : Agree L.m ρ0 ρ) (hl : θ.length = L.k) :
 (ev (ρ0.setxs L.m (θ.map fun e => (ev ρ e).x)) (argL L A)).l = (ev ρ (argE (A ++ θ))).l := by
 unfold argL
 rw [ev_argE, ev_argE]
 unfold dsOf
 rw [List.map_append, List.map_append, map_agree (Agree.setxs ρ0 L.m _) hA, ← map_agree ha hA]
 congr 1
 exact ev_varL (fun i y hi => setxs_at ρ0 L.m _ i y hi) (by simpa using hl)
theorem unm_same {n l : Nat} : ∀ {mv mv' : List (Nat × Nat)}, sameK mv mv' = true → unm n mv l = unm n mv' l
 | [], [], _ => rfl
 | a :: r, b :: s, h => by
  simp only [sameK, Bool.and_eq_true] at h
  have e := Nat.eq_of_beq_eq_true h.1
  have := unm_same (n := n) (l := l) h.2
  simp only [unm, List.any_cons, e] at this ⊢
  cases hb : Nat.beq b.1 l
  ·simpa using this
  ·simp
 | [], _ :: _, h => by cases h
 | _ :: _, [], h => by cases h
theorem isRow_lt {h : SH} {mv : List (Nat × Nat)} (hm : mv.all (isRow h) = true) : ∀ x ∈ mv, x.1 < h.length := fun x hx => by
 have := List.all_eq_true.1 hm x hx
 unfold isRow at this
 split at this
 ·cases this
 ·rename_i hl; exact (List.getElem?_eq_some_iff.1 hl).1
 ·cases this
theorem isRow_same {h : SH} : ∀ {mv mv' : List (Nat × Nat)}, sameK mv mv' = true → mv.all (isRow h) = true → mv'.all (isRow h) = true
 | [], [], _, _ => rfl
 | a :: r, b :: s, hs, hm => by
  simp only [sameK, Bool.and_eq_true] at hs
  simp only [List.all_cons, Bool.and_eq_true] at hm ⊢
  have e := Nat.eq_of_beq_eq_true hs.1
  exact ⟨by have := hm.1; unfold isRow at this ⊢; rw [← e]; exact this, isRow_same hs.2 hm.2⟩
 | [], _ :: _, h, _ => by cases h
 | _ :: _, [], h, _ => by cases h
theorem LInv_of {L : LSpec} {h s : St} {mv mv' : List (Nat × Nat)} {A θ : List E} {ds : List Deferred} {ρ0 : Env} {ls0 ls : Ls} {a : Act} {w : World} {obs : List E}
 (hM0 : Moved (unm h.hp.length mv) L.m ρ0 ρ ls0 ls) (hK : sameK mv mv' = true) (hmv : mv.all (isRow h.hp) = true) (hl : θ.length = L.k) (hi : inst L.m mv' θ h s = some obs) (ho : ∀ e ∈ obs, evB ρ e = true)
 (htm : h.tm.av (fun _ => true) (L.m + L.k) = true) (hhp : h.hp.all (HE.av (fun _ => true) (L.m + L.k)) = true) (hA : A.all (E.blw L.m) = true) (hpre : ρ.p L.pre (ev ρ (argE (A ++ θ))).l) (hr : RTm ρ ls s.tm a) (hd : a.defers = ds) (hh : HOk ρ B w0 ls s.hp w) :
 LInv B w0 L h mv A ds ρ0 ls0 (measN L A (ρ0.setxs L.m (θ.map fun e => (ev ρ e).x))) a w := by
 obtain ⟨m1, m2, m3⟩ := inst_ok hi ho (isRow_lt (isRow_same hK hmv)) hr hh
 have hu : ∀ l, unm h.hp.length mv l = unm h.hp.length mv' l := fun l => unm_same hK
 have hag : Agree (L.m + L.k) (envT ρ L.m θ) (ρ0.setxs L.m (θ.map fun e => (ev ρ e).x)) := by
  refine ⟨fun j hj => ?_, ?_, ?_, ?_⟩
  ·by_cases hjm : j < L.m
   ·show (if L.m ≤ j then _ else ρ0.x j) = (if L.m ≤ j then _ else ρ.x j)
    rw [if_neg (by omega), if_neg (by omega), hM0.ag.x j hjm]
   ·have hlt : j - L.m < (θ.map fun e => (ev ρ e).x).length := by rw [List.length_map]; omega
    have g := List.getElem?_eq_getElem hlt
    have g1 := setxs_at ρ0 L.m _ _ _ g
    have g2 := setxs_at ρ L.m _ _ _ g
    rw [show L.m + (j - L.m) = j by omega] at g1 g2
    rw [g1]; exact g2.symm
  ·exact hM0.ag.f.symm
  ·exact hM0.ag.p.symm
  ·exact hM0.ag.g.symm
 refine ⟨_, lsAt ls mv' h.hp.length, by simpa using hl, ⟨Agree.setxs ρ0 L.m _, fun l hl' => ?_, fun l _ => rfl⟩, m2.agree hag htm, hd, m3.agree hag hhp ?_, ?_, rfl⟩
 ·rw [← hM0.ls l hl', ← m1.ls l (by rw [← hu]; exact hl')]
 ·intro i x st pd hx hk
  refine (hM0.k i ?_).symm
  have hlt : i < h.hp.length := (List.getElem?_eq_some_iff.1 hx).1
  simp only [unm, Bool.and_eq_true, Bool.not_eq_true']
  refine ⟨by simp; omega, List.any_eq_false.2 fun y hy hyi => ?_⟩
  have hyi := Nat.eq_of_beq_eq_true hyi
  have := List.all_eq_true.1 hmv y hy
  unfold isRow at this
  rw [hyi, hx] at this
  obtain ⟨wr, ty, k⟩ := x
  simp only at hk
  subst hk
  cases this
 ·rw [argL_at hA hM0.ag hl, ← hM0.ag.p]
  exact hpre
end
end Vc
end Go.Proofs.YtelbilnnmmbmdaaDoor
namespace Go.Proofs.YtelbilnnmmbmdaaDoor
namespace Vc
open Go Go.RowKit
set_option linter.unusedVariables false
section
variable {P : Program} {ρ : Env} {B : Nat} {w0 : World} {cf : Cfg}
theorem tryC_ok {sm : Sm} {hp : SH} {neg : List E} {ops : Array Oper} {tm : Tms} {k c : Nat} : ∀ {d m n : Nat} {its : List It}, tryC P cf sm hp neg ops tm k c d m = some (n, its) → itsC P cf sm hp neg ops tm k c n = some its ∧ chkC ops tm k c n = true
 | 0, _, _, _, h => by cases h
 | d + 1, m, n, its, h => by
  simp only [tryC] at h
  split at h
  ·rename_i hc
   split at h
   ·rename_i its' hi
    cases h; exact ⟨hi, hc⟩
   ·exact tryC_ok h
  ·exact tryC_ok h
theorem cpieceAt_ok {sm : Sm} {hp : SH} {neg : List E} {ops : Array Oper} {tm : Tms} {k c n : Nat} {its : List It} {r : FuncId × Func × Code × List SV} (h : cpieceAt P cf sm hp neg ops tm k = some (c, n, its, r)) : itsC P cf sm hp neg ops tm k c n = some its ∧ chkC ops tm k c n = true ∧ callAt cf neg ops tm c n its = some r := by
 unfold cpieceAt at h
 generalize (regK P cf sm hp neg ops tm k (headN [] (ops.toList.drop k) + k)).its.length = c' at h
 simp only at h
 split at h
 ·rename_i n' its' htry
  split at h
  ·rename_i r' hcall
   cases h
   obtain ⟨h1, h2⟩ := tryC_ok htry
   exact ⟨h1, h2, hcall⟩
  ·cases h
 ·cases h
theorem lrecOf_ok {hp : SH} {l : Nat} {b : Bool} {ty : TypeId} {st : LoopState} {pd : Option (Option Nat)} (h : lrecOf hp l = some (b, ty, st, pd)) : hp[l]? = some ⟨b, ty, .lrec st pd⟩ := by
 unfold lrecOf at h
 split at h
 ·rename_i hl; cases h; exact hl
 ·cases h
theorem isReady_ok {st : LoopState} {pd : Option (Option Nat)} (h : isReady (st, pd) = true) : st = .ready ∧ pd = none := by
 unfold isReady at h
 split at h
 ·rename_i e; cases e; exact ⟨rfl, rfl⟩
 ·cases h
theorem isBusy_ok {st : LoopState} (h : ¬ isBusy st = true) : st ≠ .busy := fun e => by subst e; exact h rfl
theorem putObj_grown (w : World) (L : Nat) (o : Obj) : w.grownBy (w.putObj L o) (some L) := ⟨rfl, rfl, rfl, by simp [World.putObj], fun k _ hk => World.putObj_heap_other (fun e => hk (by rw [e]))⟩
theorem HOk.lrec {ls : Ls} {hp : SH} {w : World} {l : Nat} {b : Bool} {ty : TypeId} {st : LoopState} {pd : Option (Option Nat)} (hh : HOk ρ B w0 ls hp w) (hl : hp[l]? = some ⟨b, ty, .lrec st pd⟩) :
 ∃ L r, ls[l]? = some (.pointer (some ⟨L, 0, none⟩)) ∧ ρ.k l = some r ∧ w.heap[L]? = some (.loop { r with state := st, pending := pdC pd }) ∧
  (∀ st' pd', HOk ρ B w0 ls (hp.set l ⟨b, ty, .lrec st' pd'⟩) (w.putObj L (.loop { r with state := st', pending := pdC pd' }))) ∧ ∀ o, HOk ρ B w0 ls (hp.set l ⟨b, ty, .dead⟩) (w.putObj L o) := by
 obtain ⟨hb, L, r, h1, h2, h3, h4⟩ := hh.ent l _ hl
 have hb : b = true := hb
 subst hb
 have hlt : L < w.heap.size := (Array.getElem?_eq_some_iff.1 h4).1
 refine ⟨L, r, h1, h2, h4, fun st' pd' => ?_, fun o => ?_⟩
 ·exact hh.turn hl rfl (putObj_grown w L _) (.inr ⟨_, rfl, .inl (by rw [h1]; rfl)⟩) ⟨rfl, L, r, h1, h2, h3, World.putObj_heap_same hlt⟩
 ·exact hh.turn hl rfl (putObj_grown w L _) (.inr ⟨_, rfl, .inl (by rw [h1]; rfl)⟩) trivial
theorem setPs_ok {ls : Ls} {a : Act} : ∀ {ps : List Tmp} {vs : List SV} {us : List Value} {tm tm' : Tms} {t : Array Value}, setPs tm ps vs = some tm' → RTm ρ ls tm { tmps := t, defers := [] } → All2 (RV ρ ls) vs us →
 RTm ρ ls tm' { tmps := (ps.zip us).foldl (fun t (p, v) => t.setIfInBounds p v) t, defers := [] }
 | [], [], [], tm, tm', t, h, hr, _ => by cases h; exact hr
 | p :: ps, v :: vs, u :: us, tm, tm', t, h, hr, hv => by
  simp only [setPs] at h
  simp only [List.zip_cons_cons, List.foldl_cons]
  exact setPs_ok (a := a) h (hr.put (some p) (RT_true hv.1)) hv.2
 | [], _ :: _, _, _, _, _, h, _, _ => by cases h
 | _ :: _, [], _, _, _, _, h, _, _ => by cases h
 | [], [], _ :: _, _, _, _, _, _, hv => hv.elim
 | _ :: _, _ :: _, [], _, _, _, _, _, hv => hv.elim
theorem setPs_len : ∀ {ps : List Tmp} {vs : List SV} {tm tm' : Tms}, setPs tm ps vs = some tm' → ps.length = vs.length
 | [], [], _, _, _ => rfl
 | p :: ps, v :: vs, tm, tm', h => by simp only [setPs] at h; simp [setPs_len h]
 | [], _ :: _, _, _, h => by cases h
 | _ :: _, [], _, _, h => by cases h
theorem findR_ok {fn0 : Func} {R0 : Ending → World → Prop} {ls : Ls} {l : Nat} {ps : Array Tmp} {asg body : Code} {tm : Tms} : ∀ {K : List Fr} {r : Option Nat} {Q : Exit → Act → World → Prop}, Cont P B w0 fn0 R0 ρ ls r K Q → findR l K = some (ps, asg, body, tm) →
 ∃ rec a', ρ.k l = some rec ∧ rec.params = ps ∧ rec.assign = asg ∧ rec.body = body ∧ rec.tmps = a'.tmps ∧ RTm ρ ls tm a'
 | [], _, _, _, h => by cases h
 | .seq _ :: _, _, _, ⟨Q', k, _⟩, h => findR_ok k h
 | .blk _ :: _, _, _, ⟨Q', k, _⟩, h => findR_ok k h
 | .lp _ _ :: _, _, _, ⟨Q', k, _⟩, h => findR_ok k h
 | .scp :: _, _, _, ⟨Q', k, _⟩, h => findR_ok k h
 | .inv .. :: _, _, _, ⟨Q', _, _, _, k, _⟩, h => findR_ok k h
 | .act .. :: _, _, _, ⟨_, Q', _, _, _, k, _⟩, h => findR_ok k h
 | .pc .. :: _, _, _, ⟨_, Q', _, _, _, _, k, _⟩, h => findR_ok k h
 | .pm .. :: _, _, _, ⟨_, Q', _, _, _, _, k, _⟩, h => findR_ok k h
 | .rng _ _ l' .. :: _, _, _, ⟨_, Q', _, a', _, L, rec, k, _, _, _, k4, _, k6, k7, k8, k9, k10, _⟩, h => by
  simp only [findR] at h
  split at h
  ·rename_i he
   cases h
   have he := Nat.eq_of_beq_eq_true he
   subst he
   exact ⟨rec, a', k6, k7, k8, k9, k10, k4⟩
  ·exact findR_ok k h
 | .asg .. :: _, _, _, ⟨Q', _, k, _⟩, h => findR_ok k h
 | .rnd .. :: _, _, _, ⟨Q', _, _, _, _, k, _⟩, h => findR_ok k h
theorem RTm.tmps {ls : Ls} {tm : Tms} {a a' : Act} (h : RTm ρ ls tm a) (e : a'.tmps = a.tmps) : RTm ρ ls tm a' := by
 unfold RTm at *
 rw [e]; exact h
theorem sameN_ok : ∀ {a b : List Nat}, sameN a b = true → a = b
 | [], [], _ => rfl
 | a :: r, b :: s, h => by
  simp only [sameN, Bool.and_eq_true] at h
  rw [Nat.eq_of_beq_eq_true h.1, sameN_ok h.2]
 | [], _ :: _, h => by cases h
 | _ :: _, [], h => by cases h
theorem sameK_rfl : ∀ {a : List (Nat × Nat)}, sameK a a = true
 | [] => rfl
 | a :: r => by simp only [sameK, Bool.and_eq_true]; exact ⟨Nat.beq_refl a.1, sameK_rfl⟩
theorem zip_foldl {ps : Array Tmp} {us : Array Value} {t : Array Value} : (ps.zip us).foldl (fun t (p, v) => t.setIfInBounds p v) t = (ps.toList.zip us.toList).foldl (fun t (p, v) => t.setIfInBounds p v) t := by
 rw [← Array.foldl_toList, Array.toList_zip]
theorem backF_ok {L : LSpec} {h s : St} {mv : List (Nat × Nat)} {A : List E} {F : Fm} {ds : List Deferred} {ρ0 : Env} {ls0 ls : Ls} {a : Act} {w : World} {Lf : Env → SV → SH → Prop} (hb : backF L h mv A s = some F) (hF : F.holds Lf ρ)
 (hM0 : Moved (unm h.hp.length mv) L.m ρ0 ρ ls0 ls) (hmv : mv.all (isRow h.hp) = true) (htm : h.tm.av (fun _ => true) (L.m + L.k) = true) (hhp : h.hp.all (HE.av (fun _ => true) (L.m + L.k)) = true) (hA : A.all (E.blw L.m) = true)
 (hr : RTm ρ ls s.tm a) (hd : a.defers = ds) (hh : HOk ρ B w0 ls s.hp w) : ∃ n', n' < measN L A ρ ∧ LInv B w0 L h mv A ds ρ0 ls0 n' a w := by
 unfold backF at hb
 split at hb
 ·rename_i t u mv' ht hu
  split at hb
  ·rename_i hc
   simp only [Bool.and_eq_true] at hc
   have hl := Nat.eq_of_beq_eq_true hc.2
   split at hb
   ·rename_i obs hi
    cases hb
    obtain ⟨ho, hp, h1, h2⟩ := obsT_ok hF
    refine ⟨_, ?_, LInv_of hM0 hc.1 hmv hl hi ho htm hhp hA hp hr hd hh⟩
    have e := argL_at hA hM0.ag hl
    unfold measN
    rw [e]
    have h1 : (ρ.f L.meas (ev ρ (argE (A ++ (t ++ u)))).l).i < (ρ.f L.meas (ev ρ (argL L A)).l).i := h1
    have h2 : 0 < (ρ.f L.meas (ev ρ (argL L A)).l).i := h2
    have ef : (ρ0.setxs L.m ((t ++ u).map fun e => (ev ρ e).x)).f = ρ.f := hM0.ag.f.symm
    rw [ef]
    omega
   ·cases hb
  ·cases hb
 ·cases hb
theorem wp_of_pd {F : Fence} {pd : Option (Option Nat)} {Q : Exit → Act → World → Prop} {a : Act} {w : World} {r : Option Nat} (h : GoalC P r Q a w (match pd with | none => .nrm | some none => .code .ret | some (some id) => .code (.exit id))) :
 (match pdC pd with | none => Q .normal a w | some c => c.wpIn (fen r) 0 P Q a w) := by
 match pd with
 | none => exact h
 | some none => exact h
 | some (some id) => exact h
def RecOk (P : Program) (cf : Cfg) (rec : Rec) : Prop := ∀ (ρ : Env), CfgOk P ρ cf → ∀ (f0 : FuncId) (fn0 : Func) (R0 : Ending → World → Prop) (B : Nat) (w0 : World) (ctl : Ctl) (K : List Fr) (s : St) (df : List Nat) (rd : Option Nat) (ls : Ls) (a : Act) (w : World) (Q : Exit → Act → World → Prop) (ds : List Deferred) (r : Option Nat),
 Cont P B w0 fn0 R0 ρ ls r K Q → RdR ls rd r → RTm ρ ls s.tm a → DfR ls df ds → a.defers = ds → HOk ρ B w0 ls s.hp w → (∀ e ∈ s.neg, evB ρ e = false) → (rec f0 fn0 ctl K s df rd).holds (fun ρ => LeafOk ρ B w0 R0) ρ → GoalC P r Q a w ctl
theorem smallR_ok {ρ : Env} {ls : Ls} {tm : Tms} {a : Act} {e e' : E} {lo : Int} {n : Nat} (hr : RTm ρ ls tm a) (h : smallR tm e = some (e', lo, n)) : e' = e ∧ lo ≤ evI ρ e ∧ evI ρ e < lo + n := by
 unfold smallR at h
 split at h
 ·rename_i lo' hi hrg0
  have : lo' ≤ evI ρ e ∧ evI ρ e ≤ hi := by
   split at hrg0
   ·rename_i r hs
    cases hrg0
    unfold synR at hs
    split at hs
    ·rename_i e0 m
     split at hs
     ·rename_i hm
      cases hs
      have h1 : 0 ≤ evI ρ e0 % m := Int.emod_nonneg _ (by omega)
      have h2 : evI ρ e0 % m < m := Int.emod_lt_of_pos _ hm
      exact ⟨h1, by show evI ρ e0 % m ≤ m - 1; omega⟩
     ·cases hs
    ·cases hs
   ·rename_i hs
    have := rngT_ok (a := a) hr (Nat.le_refl _) hrg0
    simpa using this
  split at h
  ·cases h
   exact ⟨rfl, this.1, by omega⟩
  ·cases h
 ·cases h
theorem casesI_ok {R : Env → SV → SH → Prop} {g : E → Fm} {e : E} {ρ : Env} : ∀ {n : Nat} {lo : Int}, (casesI g e lo n).holds R ρ → lo ≤ evI ρ e → evI ρ e < lo + n → ∃ m : Int, evB ρ (.eq e (.ic m)) = true ∧ (g (.eq e (.ic m))).holds R ρ
 | 0, lo, _, h1, h2 => by omega
 | n + 1, lo, h, h1, h2 => by
  obtain ⟨k1, k2⟩ := h
  by_cases he : evI ρ e = lo
  ·have hb : evB ρ (.eq e (.ic lo)) = true := decide_eq_true he
   exact ⟨lo, hb, k1 ((evP_iff ρ _).2 hb)⟩
  ·exact casesI_ok k2 (by omega) (by omega)
theorem splitT_ok {cf : Cfg} {ρ : Env} {ls : Ls} {tm : Tms} {a : Act} {key : List Nat} {e : E} {lo : Int} {n : Nat} (hr : RTm ρ ls tm a) (h : splitT cf tm key = some (e, lo, n)) : lo ≤ evI ρ e ∧ evI ρ e < lo + n := by
 unfold splitT at h
 split at h
 ·split at h
  ·split at h
   ·split at h
    ·obtain ⟨rfl, h1⟩ := smallR_ok hr h; exact h1
    ·cases h
   ·cases h
  ·cases h
 ·cases h
set_option maxHeartbeats 2000000 in
theorem stepCode_ok {rec : Rec} (ih00 : RecOk P cf rec) {ρ : Env} (hc : CfgOk P ρ cf) {sm : Sm} (hsm : SmOk P ρ sm) {c : Code} {f0 : FuncId} {fn0 : Func} {R0 : Ending → World → Prop} {B : Nat} {w0 : World} {K : List Fr} {s : St} {df : List Nat} {rd : Option Nat} {ls : Ls} {a : Act} {w : World} {Q : Exit → Act → World → Prop} {ds : List Deferred} {r : Option Nat}
 (hk : Cont P B w0 fn0 R0 ρ ls r K Q) (hrd : RdR ls rd r) (hr : RTm ρ ls s.tm a) (hdf : DfR ls df ds) (hd : a.defers = ds) (hh : HOk ρ B w0 ls s.hp w) (hn : ∀ e ∈ s.neg, evB ρ e = false) (h : (stepCode P cf sm rec f0 fn0 c K s df rd).holds (fun ρ => LeafOk ρ B w0 R0) ρ) : c.wpIn (fen r) 0 P Q a w := by
 have ih := ih00 ρ hc f0 fn0 R0 B w0
 unfold stepCode at h
 cases c <;> simp only at h <;> try (exact h.elim)
 case skip => exact wpIn_skip (ih .nrm K s df rd ls a w Q ds r hk hrd hr hdf hd hh hn h)
 case label l => exact wpIn_label (ih .nrm K s df rd ls a w Q ds r hk hrd hr hdf hd hh hn h)
 case seq x y => exact wpIn_seq (ih (.code x) (.seq y :: K) s df rd ls a w _ ds r ⟨Q, hk, rfl⟩ hrd hr hdf hd hh hn h)
 case block id c =>
  split at h
  ·rename_i e lo n hs
   obtain ⟨h1, h2⟩ := splitT_ok hr hs
   obtain ⟨m, hb, hm⟩ := casesI_ok h h1 h2
   obtain ⟨g1, g2⟩ := assumeN_ok hb hn hr hh
   exact wpIn_block (ih (.code c) (.blk id :: K) (assumeN (.eq e (.ic m)) s) df rd ls a w _ ds r ⟨Q, hk, rfl⟩ hrd g1 hdf hd g2 (assumeN_neg hb hn) hm)
  ·exact wpIn_block (ih (.code c) (.blk id :: K) s df rd ls a w _ ds r ⟨Q, hk, rfl⟩ hrd hr hdf hd hh hn h)
 case loop c =>
  split at h
  ·exact wpIn_loop_rounds 201 (ih (.code c) (.lp c 200 :: K) s df rd ls a w _ ds r ⟨Q, hk, rfl⟩ hrd hr hdf hd hh hn h)
  ·split at h
   ·exact h.elim
   rename_i L hL
   split at h
   ·exact h.elim
   ·rename_i d hhd
    split at h
    ·exact h.elim
    ·rename_i obs hi
     split at h
     ·rename_i hok
      simp only [headOk, Bool.and_eq_true] at hok
      obtain ⟨⟨⟨⟨⟨⟨⟨⟨o1, o2⟩, o3⟩, o4⟩, o5⟩, o6⟩, o7⟩, o8⟩, o9⟩ := hok
      have o1 := Nat.eq_of_beq_eq_true o1
      obtain ⟨ho, hp0, hall⟩ := obsT_ok h
      obtain ⟨p1, p2, p3⟩ := headOf_s1 hhd
      obtain ⟨ls1, e1, hr1, hh1⟩ := promotes_ok p1 hr hh
      have hI := LInv_of (ds := ds) (ρ := ρ) (ρ0 := ρ) (ls0 := ls1) (ls := ls1) (s := d.s1) ⟨Agree.refl _ _, fun _ _ => rfl, fun _ _ => rfl⟩ sameK_rfl o4 o1 hi ho o5 o6 o2 hp0 hr1 hd hh1
      refine wpIn_loop_n (LInv B w0 L d.h d.mv d.A ds ρ ls1) hI fun n' a1 w1 hInv => ?_
      obtain ⟨ys, ls', hl, hM, hr', hd', hh', hpre, hn'⟩ := hInv
      subst hn'
      have hb := rngF_ok hr' hh' (allF_ok hall ys hl) hpre
      have hlen : d.h.hp.length ≤ ls'.length := by rw [hh'.len]; exact Nat.le_refl _
      refine ih00 (ρ.setxs L.m ys) (hc.withX _) f0 fn0 R0 B w0 (.code c) (.inv L d.h d.mv d.A df :: weakK L d K) d.h df rd ls' a1 w1 _ ds r ⟨Q, ρ, ls1, ds, Cont.move hM hlen o7 (hk.weakK.ext e1), hM, hlen, (hdf.ext e1).move hM.ls o8, o8, o4, o5, o6, o2, rfl⟩ ((hrd.ext e1).move hM.ls o9) hr' ((hdf.ext e1).move hM.ls o8) hd' hh' ?_ hb
      intro e he
      have hbl := List.all_eq_true.1 o3 e he
      rw [p3] at he
      unfold evB
      rw [ev_agree hM.ag hbl]
      exact hn e (List.mem_filter.1 he).1
     ·exact h.elim
 case scope c => exact wpIn_scope_straight (ih (.code c) (.scp :: K) s df rd ls a w _ ds r ⟨Q, hk, rfl⟩ hrd hr hdf hd hh hn h)
 case exit id => exact wpIn_exit (ih (.ex id) K s df rd ls a w Q ds r hk hrd hr hdf hd hh hn h)
 case ret => exact wpIn_ret (ih .ret K s df rd ls a w Q ds r hk hrd hr hdf hd hh hn h)
 case cond c x y =>
  split at h
  ·rename_i e he
   have hev : a.eval c = .bool (evB ρ e) := opd_ok he hr (G := .bc true) rfl
   split at h
   ·rename_i ht
    rw [isT_ok ht] at hev
    exact wpIn_cond_true hev (ih (.code x) K s df rd ls a w Q ds r hk hrd hr hdf hd hh hn h)
   ·split at h
    ·rename_i hf
     have : evB ρ e = false := by cases e <;> simp_all [isF, evB, ev, dB, xB]
     rw [this] at hev
     exact wpIn_cond_false hev (ih (.code y) K s df rd ls a w Q ds r hk hrd hr hdf hd hh hn h)
    ·split at h
     ·rename_i tx ty hx hy
      have lx := line_len hx
      have ly := line_len hy
      have hlen := hr.1
      cases hb : evB ρ e
      ·rw [hb] at hev
       refine wpIn_cond_false hev (line_ok hc hy hr hd hh fun a' w' hr' hd' hh' => ?_)
       refine ih .nrm K ⟨mergeL e tx ty, s.hp, s.neg⟩ df rd ls a' w' Q ds r hk hrd (mergeL_ok ⟨(fun h' => by rw [hb] at h'; cases h'), fun _ => hr'⟩ (by have := hr'.1; omega) hr'.1) hdf hd' hh' hn h
      ·rw [hb] at hev
       refine wpIn_cond_true hev (line_ok hc hx hr hd hh fun a' w' hr' hd' hh' => ?_)
       refine ih .nrm K ⟨mergeL e tx ty, s.hp, s.neg⟩ df rd ls a' w' Q ds r hk hrd (mergeL_ok ⟨fun _ => hr', (fun h' => by rw [hb] at h'; cases h')⟩ hr'.1 (by have := hr'.1; omega)) hdf hd' hh' hn h
     ·obtain ⟨h1, h2⟩ := h
      cases hb : evB ρ e
      ·rw [hb] at hev
       have hne : evB ρ (eNot e) = true := by rw [evB_eNot, hb]; rfl
       obtain ⟨g1, g2⟩ := assumeN_ok hne hn hr hh
       exact wpIn_cond_false hev (ih (.code y) K (assumeN (eNot e) s) df rd ls a w Q ds r hk hrd g1 hdf hd g2 (assumeN_neg hne hn) (h2 ((evP_iff ρ _).2 hne)))
      ·rw [hb] at hev
       obtain ⟨g1, g2⟩ := assumeN_ok hb hn hr hh
       exact wpIn_cond_true hev (ih (.code x) K (assumeN e s) df rd ls a w Q ds r hk hrd g1 hdf hd g2 (assumeN_neg hb hn) (h1 ((evP_iff ρ _).2 hb)))
  ·exact h.elim
 case region id ops d =>
  cases d with
  | false => exact wpIn_region_list (ih (.ops (false, ops) ops.toList) K s df rd ls a w Q ds r hk hrd hr hdf hd hh hn h)
  | true =>
   have h0 := ih (.ops (true, ops) ops.toList) K s df rd ls a { w with drawn := w.drawn + 1 } Q ds r hk hrd hr hdf hd (hh.drawn _) hn h 0 (Nat.zero_le _) rfl
   refine wpIn_region_any hc.mixed ?_
   rw [headL_zero] at h0
   exact h0
 case rangeFunc g ps asg body =>
  split at h
  ·rename_i f cap hg
   obtain ⟨fs, cs, he, q1, q2⟩ := opd_ok hg hr (G := .bc true) rfl
   have hfs : fs = [] := by cases fs with | nil => rfl | cons _ _ => exact q1.elim
   subst hfs
   split at h
   ·rename_i fn hfn
    split at h
    ·rename_i c hbody
     obtain ⟨f1, f2⟩ := hc.fns _ _ hfn
     have eg : ∀ args w, (callFunc f args).run P w = .ok (.enter f args) w := fun args w => run_callFunc f1 (by rw [hbody]; rfl) f2 w
     split at h
     ·-- an outermost one
      have hr0 : r = none := hrd
      subst hr0
      refine wpIn_rangeFunc fun fn' _ => ?_
      obtain ⟨rec, hrec⟩ : ∃ rec : Loop, rec = { state := .ready, pending := none, fn := fn', tmps := a.tmps, params := ps, assign := asg, body := body, defers := w.heap.size } := ⟨_, rfl⟩
      refine ⟨w.heap.size + 1, [{ target := .collected w.heap.size, args := #[] }], (w.alloc (.deferred (some []))).alloc (.loop rec), { target := .fn (.func f) cs.toArray, args := #[.func (.yield (w.heap.size + 1)) #[] #[]] }, (w.alloc (.deferred (some []))).alloc (.loop rec), f,
       #[.func (.yield (w.heap.size + 1)) #[] #[]] ++ cs.toArray, (w.alloc (.deferred (some []))).alloc (.loop rec), (by rw [hrec]; exact run_enterLoop_outer _ _ _ _ _), ?_, fun _ _ => trivial, ?_, (fun e => by cases e), ?_⟩
      ·simp only [resolve, he]
       simp [go_sem]
      ·simp [invoke, go_sem, eg]
      ·have hlen := hh.len
       have hmk : HOk ρ B w0 (ls ++ [.pointer (some ⟨w.heap.size, 0, none⟩)]) (s.hp ++ [⟨true, 0, .mark⟩]) (w.alloc (.deferred (some []))) :=
        hh.push (World.grownBy_alloc w _ none) ⟨rfl, w.heap.size, by simp, hh.size, heap_alloc_new w _⟩ (fun b e => by cases e.ptr; exact Nat.le_refl _)
       have hsz : (w.alloc (.deferred (some []))).heap.size = w.heap.size + 1 := World.size_alloc w _
       have hlr : HOk (ρ.wk (setk ρ.k (s.hp.length + 1) rec)) B w0 (ls ++ [.pointer (some ⟨w.heap.size, 0, none⟩)] ++ [.pointer (some ⟨w.heap.size + 1, 0, none⟩)]) (s.hp ++ [⟨true, 0, .mark⟩] ++ [⟨true, 0, .lrec .ready none⟩]) ((w.alloc (.deferred (some []))).alloc (.loop rec)) := by
        refine (hmk.wk fun i hi => ?_).push (World.grownBy_alloc _ _ none) ⟨rfl, w.heap.size + 1, rec, ?_, ?_, ?_, ?_⟩ (fun b e => by cases e.ptr; rw [hsz]; exact Nat.le_refl _)
        ·show (if i = s.hp.length + 1 then _ else _) = _
         rw [if_neg (by simp at hi; omega)]
        ·simp
        ·show (if _ = s.hp.length + 1 then some rec else _) = _
         rw [if_pos (by simp [hlen])]
        ·have := hh.size; omega
        ·have := heap_alloc_new (w.alloc (.deferred (some []))) (.loop rec)
         rw [hsz] at this
         rw [this, hrec]; rfl
       have e1 : Ext ls (ls ++ [.pointer (some ⟨w.heap.size, 0, none⟩)] ++ [.pointer (some ⟨w.heap.size + 1, 0, none⟩)]) := (Ext.snoc ls _).trans (Ext.snoc _ _)
       have hl1 : (ls ++ [Value.pointer (some ⟨w.heap.size, 0, none⟩)] ++ [.pointer (some ⟨w.heap.size + 1, 0, none⟩)])[s.hp.length + 1]? = some (.pointer (some ⟨w.heap.size + 1, 0, none⟩)) := by rw [← hlen]; simp
       have hl0 : (ls ++ [Value.pointer (some ⟨w.heap.size, 0, none⟩)] ++ [.pointer (some ⟨w.heap.size + 1, 0, none⟩)])[s.hp.length]? = some (.pointer (some ⟨w.heap.size, 0, none⟩)) := by rw [← hlen]; simp
       refine callsIn_fen.2 (callsIn_wide (n := 0).1 (callsIn_of_wp_marks f1 hbody trivial ?_))
       have hC : Cont P B w0 fn0 R0 (ρ.wk (setk ρ.k (s.hp.length + 1) rec)) (ls ++ [.pointer (some ⟨w.heap.size, 0, none⟩)] ++ [.pointer (some ⟨w.heap.size + 1, 0, none⟩)]) none K Q := by
        refine Cont.ext (Ext.snoc _ _) (Cont.wk (fun i hi => ?_) (hk.ext (Ext.snoc ls _)))
        show (if i = s.hp.length + 1 then _ else _) = _
        rw [if_neg (by simp at hi; omega)]
       refine ih00 (ρ.wk (setk ρ.k (s.hp.length + 1) rec)) (hc.wk _) f0 fn0 R0 B w0 (.code c) (.rng f fn (s.hp.length + 1) ps asg body s.tm (s.hp.length :: df) none :: K) _ [] none _ _ _ _ [] none
        ⟨rfl, Q, none, { a with defers := [{ target := .collected w.heap.size, args := #[] }] ++ a.defers }, { target := .collected w.heap.size, args := #[] } :: ds, w.heap.size + 1, rec, hC, rfl, ⟨⟨_, hl0, rfl⟩, hdf.ext e1⟩, by rw [← hd]; rfl, RTm.tmps (RTm_wk.2 (hr.ext e1)) rfl, hl1, ?_, by rw [hrec], by rw [hrec], by rw [hrec], by rw [hrec], rfl⟩ rfl (initT_ok (us := [Value.func (.yield (w.heap.size + 1)) #[] #[]] ++ cs) ?_ (by simp)) trivial rfl hlr (fun e he => by rw [evB_wk]; exact hn e he) (holds_wk _ h)
       ·show (if _ = s.hp.length + 1 then some rec else _) = _
        rw [if_pos rfl]
       ·have q2' := all2_pv (ρ := ρ.wk (setk ρ.k (s.hp.length + 1) rec)) (All2.mono (fun _ _ => RP.ext e1) q2)
        exact ⟨⟨_, hl1, rfl⟩, q2'⟩
     ·-- one within a round
      rename_i l0
      obtain ⟨L0, hL0, hr0⟩ := hrd
      subst hr0
      split at h
      ·rename_i x hx
       obtain ⟨b0, ty0, st0, pd0⟩ := x
       obtain ⟨L0', rec0, g1, _, g3, _, _⟩ := hh.lrec (lrecOf_ok hx)
       rw [hL0] at g1
       cases g1
       refine wpIn_rangeFunc fun fn' _ => ?_
       obtain ⟨rec, hrec⟩ : ∃ rec : Loop, rec = { state := .ready, pending := none, fn := fn', tmps := a.tmps, params := ps, assign := asg, body := body, defers := rec0.defers } := ⟨_, rfl⟩
       refine ⟨w.heap.size, [], w.alloc (.loop rec), { target := .fn (.func f) cs.toArray, args := #[.func (.yield w.heap.size) #[] #[]] }, w.alloc (.loop rec), f,
        #[.func (.yield w.heap.size) #[] #[]] ++ cs.toArray, w.alloc (.loop rec), (by rw [hrec]; exact run_enterLoop_inner g3 _ _ _ _ _), ?_, fun _ _ => trivial, ?_, (fun e => by cases e), ?_⟩
       ·simp only [resolve, he]
        simp [go_sem]
       ·simp [invoke, go_sem, eg]
       ·have hlen := hh.len
        have hlr : HOk (ρ.wk (setk ρ.k s.hp.length rec)) B w0 (ls ++ [.pointer (some ⟨w.heap.size, 0, none⟩)]) (s.hp ++ [⟨true, 0, .lrec .ready none⟩]) (w.alloc (.loop rec)) := by
         refine (hh.wk fun i hi => ?_).push (World.grownBy_alloc _ _ none) ⟨rfl, w.heap.size, rec, ?_, ?_, ?_, ?_⟩ (fun b e => by cases e.ptr; exact Nat.le_refl _)
         ·show (if i = s.hp.length then _ else _) = _
          rw [if_neg (by omega)]
         ·simp
         ·show (if _ = s.hp.length then some rec else _) = _
          rw [if_pos (by simp [hlen])]
         ·exact hh.size
         ·rw [heap_alloc_new w, hrec]; rfl
        have e1 : Ext ls (ls ++ [.pointer (some ⟨w.heap.size, 0, none⟩)]) := Ext.snoc ls _
        have hl1 : (ls ++ [Value.pointer (some ⟨w.heap.size, 0, none⟩)])[s.hp.length]? = some (.pointer (some ⟨w.heap.size, 0, none⟩)) := by rw [← hlen]; simp
        refine callsIn_fen.2 (callsIn_wide (n := 0).1 (callsIn_of_wp_marks f1 hbody trivial ?_))
        have hC : Cont P B w0 fn0 R0 (ρ.wk (setk ρ.k s.hp.length rec)) (ls ++ [.pointer (some ⟨w.heap.size, 0, none⟩)]) (some L0) K Q := by
         refine Cont.ext (Ext.snoc _ _) (Cont.wk (fun i hi => ?_) hk)
         show (if i = s.hp.length then _ else _) = _
         rw [if_neg (by omega)]
        refine ih00 (ρ.wk (setk ρ.k s.hp.length rec)) (hc.wk _) f0 fn0 R0 B w0 (.code c) (.rng f fn s.hp.length ps asg body s.tm df (some l0) :: K) _ [] none _ _ _ _ [] none
         ⟨rfl, Q, some L0, { a with defers := [] ++ a.defers }, ds, w.heap.size, rec, hC, ⟨L0, e1 _ _ hL0, rfl⟩, hdf.ext e1, by rw [← hd]; rfl, RTm.tmps (RTm_wk.2 (hr.ext e1)) rfl, hl1, ?_, by rw [hrec], by rw [hrec], by rw [hrec], by rw [hrec], rfl⟩ rfl (initT_ok (us := [Value.func (.yield w.heap.size) #[] #[]] ++ cs) ?_ (by simp)) trivial rfl hlr (fun e he => by rw [evB_wk]; exact hn e he) (holds_wk _ h)
        ·show (if _ = s.hp.length then some rec else _) = _
         rw [if_pos rfl]
        ·have q2' := all2_pv (ρ := ρ.wk (setk ρ.k s.hp.length rec)) (All2.mono (fun _ _ => RP.ext e1) q2)
         exact ⟨⟨_, hl1, rfl⟩, q2'⟩
      ·exact h.elim
    ·exact h.elim
   ·exact h.elim
  ·exact h.elim
theorem nextO_ok {tm : Tms} {hp : SH} {G : E} {o : Oper} {l : Nat} {ty : TypeId} {x p : E} {hi : Int} (h : nextO tm hp G o = some (l, ty, x, p, hi)) : ∃ xo, o.op = .next xo true ∧ opd tm G xo = some (.c (.ptr l 0)) ∧ hp[l]? = some ⟨true, ty, .iter x p hi⟩ := by
 unfold nextO at h
 split at h
 ·rename_i xo ho
  split at h
  ·rename_i l' hx
   split at h
   ·rename_i hl
    cases h
    exact ⟨xo, ho, hx, hl⟩
   ·cases h
  ·cases h
 ·cases h
set_option maxHeartbeats 2000000 in
theorem stepOps1_ok {rec : Rec} (ih00 : RecOk P cf rec) {ρ : Env} (hc : CfgOk P ρ cf) {sm : Sm} (hsm : SmOk P ρ sm) {all : Bool × Array Oper} {l1 : List Oper} {f0 : FuncId} {fn0 : Func} {R0 : Ending → World → Prop} {B : Nat} {w0 : World} {K : List Fr} {s : St} {df : List Nat} {rd : Option Nat} {ls : Ls} {a : Act} {w : World} {Q : Exit → Act → World → Prop} {ds : List Deferred} {r : Option Nat}
 (hk : Cont P B w0 fn0 R0 ρ ls r K Q) (hrd : RdR ls rd r) (hr : RTm ρ ls s.tm a) (hdf : DfR ls df ds) (hd : a.defers = ds) (hh : HOk ρ B w0 ls s.hp w) (hn : ∀ e ∈ s.neg, evB ρ e = false) (h : (stepOps1 P cf sm rec f0 fn0 all l1 K s df rd).holds (fun ρ => LeafOk ρ B w0 R0) ρ) : wpRest r P all Q l1 a w := by
 have ih := ih00 ρ hc f0 fn0 R0 B w0
 unfold stepOps1 at h
 cases l1 with
 | nil =>
  exact wpRest_nil (ih .nrm K s df rd ls a w Q ds r hk hrd hr hdf hd hh hn h)
 | cons o rest =>
  simp only at h
  split at h
  rotate_left
  ·exact h.elim
  rename_i hB
  split at h
  ·exact h.elim
  ·rename_i hg
   have hwd := guardOf_ok hg hr hn
   exact wpRest_not hB hwd (ih (.ops all rest) K ⟨putT s.tm o.dst undT, s.hp, s.neg⟩ df rd ls (a.put o.dst undef) w Q ds r hk hrd (hr.put _ RT_und) hdf (act_defers hd _ _) hh hn h)
  ·rename_i Gd hg
   have hwd := guardOf_ok hg hr hn
   have hskip : evB ρ Gd = false → wpRest r P all Q rest (a.put o.dst undef) w → wpRest r P all Q (o :: rest) a w := fun hf hx => wpRest_not hB (hwd.trans hf) hx
   split at h
   ·rename_i v ow hv
    obtain ⟨p1, p2⟩ := owF_ok h
    cases hGd : evB ρ Gd
    ·exact hskip hGd (ih (.ops all rest) K ⟨putT s.tm o.dst ⟨Gd, nz s.neg v⟩, s.hp, s.neg⟩ df rd ls (a.put o.dst undef) w Q ds r hk hrd (hr.put _ ⟨(fun e => by rw [show evB ρ Gd = true from e] at hGd; cases hGd), fun _ => rfl⟩) hdf (act_defers hd _ _) hh hn p2)
    ·have hu := opQ2_ok hsm hv hc (p1 hGd) hr hGd hh
     refine wpRest_upon hB (hwd.trans hGd) (opIn_set hu hh fun z w' hz hw' => ?_)
     exact ih (.ops all rest) K ⟨putT s.tm o.dst ⟨Gd, nz s.neg v⟩, s.hp, s.neg⟩ df rd ls (a.put o.dst z) w' Q ds r hk hrd (hr.put _ ⟨fun _ => nz_ok hn hz, (fun e => by rw [show evB ρ Gd = false from e] at hGd; cases hGd)⟩) hdf (act_defers hd _ _) hw' hn p2
   ·split at h
    ·rename_i hT
     have hGd : evB ρ Gd = true := isT_ok hT
     refine wpRest_upon hB (hwd.trans hGd) ?_
     split at h
     ·rename_i v hp' he
      obtain ⟨ls', w', e1, e2, e3⟩ := opEff_ok (P := P) (w := w) he hr hGd hh
      rcases e3 with ⟨s', z, hs, hrun, hz⟩ | ⟨hs, _⟩
      ·cases hs
       refine opIn_value hrun ?_
       exact ih (.ops all rest) K ⟨putT s.tm o.dst ⟨.bc true, v⟩, hp', s.neg⟩ df rd ls' (a.put o.dst z) w' Q ds r (hk.ext e1) (hrd.ext e1) ((hr.ext e1).put _ (RT_true hz)) (hdf.ext e1) (act_defers hd _ _) e2 hn h
      ·cases hs
     ·rename_i hp' he
      obtain ⟨ls', w', e1, e2, e3⟩ := opEff_ok (P := P) (w := w) he hr hGd hh
      rcases e3 with ⟨s', z, hs, _⟩ | ⟨_, hrun⟩
      ·cases hs
      ·refine opIn_skip hrun ?_
       exact ih (.ops all rest) K ⟨putT s.tm o.dst undT, hp', s.neg⟩ df rd ls' (a.put o.dst undef) w' Q ds r (hk.ext e1) (hrd.ext e1) ((hr.ext e1).put _ RT_und) (hdf.ext e1) (act_defers hd _ _) e2 hn h
     ·split at h
      ·rename_i v hp' ow hx
       obtain ⟨p1, p2⟩ := owF_ok h
       have hu := opX_ok (P := P) (w := w) hx hc (p1 hGd) hr hGd hh
       refine upR.wp (K := wpRest r P all Q rest) ?_
       refine upR.mono (fun z w' hz => ?_) hu
       obtain ⟨ls', e1, e2, e3⟩ := hz
       exact ih (.ops all rest) K ⟨putT s.tm o.dst ⟨.bc true, v⟩, hp', s.neg⟩ df rd ls' (a.put o.dst z) w' Q ds r (hk.ext e1) (hrd.ext e1) ((hr.ext e1).put _ (RT_true e3)) (hdf.ext e1) (act_defers hd _ _) e2 hn p2
      ·split at h
       ·rename_i n b hnc
        obtain ⟨q1, q2⟩ := h
        rcases nilCmp_ok hnc hr hGd hh with ⟨hrun, hz⟩ | hrun
        ·refine opIn_value hrun ?_
         exact ih (.ops all rest) K ⟨putT s.tm o.dst ⟨.bc true, .c (.bool (.bc b))⟩, s.hp, s.neg⟩ df rd ls (a.put o.dst (.bool b)) w Q ds r hk hrd (hr.put _ (RT_true rfl)) hdf (act_defers hd _ _) hh hn (q1 hz)
        ·refine opIn_value hrun ?_
         exact ih (.ops all rest) K ⟨putT s.tm o.dst ⟨.bc true, .c (.bool (.bc (!b)))⟩, s.hp, s.neg⟩ df rd ls (a.put o.dst (.bool (!b))) w Q ds r hk hrd (hr.put _ (RT_true rfl)) hdf (act_defers hd _ _) hh hn q2
       ·split at h
        ·rename_i l ty x p hi hnx
         obtain ⟨q1, q2⟩ := h
         obtain ⟨xo, hop, hx, hl⟩ := nextO_ok hnx
         obtain ⟨n1, n2⟩ := next_ok (P := P) (ty' := o.type) hl hh (opd_ok hx hr hGd)
         by_cases hlt : evI ρ p < evI ρ x
         ·obtain ⟨z, w', r1, r2, r3⟩ := n1 hlt
          have hrun : (execOp a.eval o).run P w = .ok (.value z) w' := by
           simp only [execOp, hop, Sem.run_bind, r1, Result.andThen_ok, Sem.run_pure]
          refine opIn_value hrun ?_
          exact ih (.ops all rest) K ⟨putT s.tm o.dst ⟨.bc true, nextT x p hi⟩, s.hp.set l ⟨true, ty, .iter x (.add p (.dcw x p)) hi⟩, s.neg⟩ df rd ls (a.put o.dst z) w' Q ds r hk hrd (hr.put _ (RT_true r3)) hdf (act_defers hd _ _) r2 hn (q1 ((evP_iff ρ _).2 (decide_eq_true hlt)))
         ·obtain ⟨z, r1, r3⟩ := n2 hlt
          have hrun : (execOp a.eval o).run P w = .ok (.value z) w := by
           simp only [execOp, hop, Sem.run_bind, r1, Result.andThen_ok, Sem.run_pure]
          refine opIn_value hrun ?_
          refine ih (.ops all rest) K ⟨putT s.tm o.dst ⟨.bc true, nextF⟩, s.hp, s.neg⟩ df rd ls (a.put o.dst z) w Q ds r hk hrd (hr.put _ (RT_true r3)) hdf (act_defers hd _ _) hh hn (q2 ((evP_iff ρ _).2 ?_))
          have q : evB ρ (eNot (.lt p x)) = !evB ρ (.lt p x) := ev_eNot ρ _
          exact q.trans (by rw [show evB ρ (.lt p x) = false from decide_eq_false hlt]; rfl)
        split at h
        ·rename_i fid fn c vs hcall
         unfold callOf at hcall
         split at hcall
         ·rename_i f args at_ ho
          split at hcall
          ·rename_i f' first cap vs' hf hvs
           split at hcall
           ·rename_i fn' hfn
            split at hcall
            ·rename_i c' hbody
             cases hcall
             obtain ⟨f1, f2⟩ := hc.fns _ _ hfn
             obtain ⟨fs, cs, he, g1, g2⟩ := opd_ok hf hr hGd
             have hargs := opds_ok hr hGd hvs
             have hall : All2 (RV ρ ls) (first.map pvS ++ vs' ++ cap.map pvS) (fs ++ args.toList.map a.eval ++ cs) := ((all2_pv g1).append hargs).append (all2_pv g2)
             have hl := hall.len
             have e : args.map a.eval = (args.toList.map a.eval).toArray := by rw [← Array.toList_map]
             have hrun : (execOp a.eval o).run P w =   .ok (.enter fid (fs ++ args.toList.map a.eval ++ cs).toArray) w := by
              simp only [execOp, ho, resolve, he, Deferred.ofValue, Sem.run_bind, Sem.run_pure, Result.andThen_ok, invoke, e]
              rw [run_callFunc f1 (by rw [hbody]; rfl) f2]
              simp
             refine opIn_enter hrun (callsIn_of_wp_marks (R := actR P r all rest o.dst a Q) f1 hbody trivial ?_)
             refine ih (.code c) (.act fid fn s.tm df rd all rest o.dst :: K) ⟨initT fn.ntmps (first.map pvS ++ vs' ++ cap.map pvS), s.hp, s.neg⟩ [] none ls _ w _ [] none ⟨rfl, Q, r, a, ds, hk, hrd, hdf, hd, hr, rfl⟩ rfl (initT_ok hall ?_) trivial rfl hh hn h
             simp only [List.size_toArray]
            ·cases hcall
           ·cases hcall
          ·cases hcall
         ·cases hcall
        ·split at h
         ·rename_i l vs hy
          split at h
          ·rename_i ps asg body tm b ty st pd hfr hlr
           split at h
           ·rename_i hrdy
            split at h
            ·rename_i tm' hps
             obtain ⟨rfl, rfl⟩ := isReady_ok hrdy
             unfold yldOf at hy
             split at hy
             ·rename_i f args at_ ho
              split at hy
              ·rename_i l' vs' hf hvs
               cases hy
               obtain ⟨L, hL, he⟩ := opd_ok hf hr hGd
               have hargs := opds_ok hr hGd hvs
               obtain ⟨L', rec, g1, g2, g3, _, _⟩ := hh.lrec (lrecOf_ok hlr)
               rw [hL] at g1
               cases g1
               obtain ⟨rec', a', c1, c2, c3, c4, c5, c6⟩ := findR_ok hk hfr
               rw [g2] at c1
               cases c1
               have hlenp : ps.toList.length = (args.toList.map a.eval).length := by
                have := setPs_len hps
                rw [this, hargs.len]
               have hrun : (execOp a.eval o).run P w = .ok (.round L rec.fn ((rec.params.zip (args.map a.eval)).foldl (fun tmps (t, a) => tmps.setIfInBounds t a) rec.tmps) rec.assign rec.body) w := by
                have hsz : (args.map a.eval).size = ({ rec with state := .ready, pending := pdC none } : Loop).params.size := by
                 show _ = rec.params.size
                 rw [c2]
                 simp at hlenp ⊢
                 omega
                have := run_yield (P := P) g3 hsz
                simp only [execOp, ho, resolve, he, Deferred.ofValue, Sem.run_bind, Sem.run_pure, Result.andThen_ok, invoke]
                simpa using this
               refine opIn_round hrun (roundIn_of_wpIn (F := Fence.wide) trivial ?_)
               rw [c3, c4]
               have hT : RTm ρ ls tm' { tmps := (rec.params.zip (args.map a.eval)).foldl (fun tmps (t, a) => tmps.setIfInBounds t a) rec.tmps, defers := [] } := by
                have := setPs_ok (a := a) (ρ := ρ) (ls := ls) (t := rec.tmps) hps (c6.tmps c5) hargs
                rw [zip_foldl, c2]
                simpa using this
               exact ih (.code asg) (.asg l body :: .rnd l s.tm df rd all rest o.dst :: K) ⟨tm', s.hp, s.neg⟩ [] (some l) ls _ w _ [] (some L)
                ⟨roundPost P L (actR P r all rest o.dst a Q), L, ⟨Q, r, a, ds, L, hk, hrd, hdf, hd, hr, hL, rfl⟩, hL, rfl⟩ ⟨L, hL, rfl⟩ hT trivial rfl hh hn h
              ·cases hy
             ·cases hy
            ·exact h.elim
           ·exact h.elim
          ·exact h.elim
         ·exact h.elim
    ·obtain ⟨h1, h2⟩ := h
     cases hGd : evB ρ Gd
     ·have hne : evB ρ (eNot Gd) = true := by rw [evB_eNot, hGd]; rfl
      obtain ⟨g1, g2⟩ := assumeN_ok hne hn hr hh
      exact hskip hGd (ih (.ops all rest) K ⟨putT (assumeN (eNot Gd) s).tm o.dst undT, (assumeN (eNot Gd) s).hp, Gd :: (assumeN (eNot Gd) s).neg⟩ df rd ls (a.put o.dst undef) w Q ds r hk hrd (RTm.put g1 _ RT_und) hdf (act_defers hd _ _) g2 (fun e he => by
       rcases List.mem_cons.1 he with rfl | he
       ·exact hGd
       ·exact assumeN_neg hne hn e he) (h2 ((evP_iff ρ _).2 hne)))
     ·obtain ⟨g1, g2⟩ := assumeN_ok hGd hn hr hh
      exact ih (.ops all (o :: rest)) K (assumeN Gd s) df rd ls a w Q ds r hk hrd g1 hdf hd g2 (assumeN_neg hGd hn) (h1 ((evP_iff ρ _).2 hGd))
theorem effO_ok {P : Program} {cf : Cfg} {ρ : Env} {B : Nat} {w0 w : World} {ls : Ls} {hp hp' : SH} {tm : Tms} {a : Act} {G : E} {o : Oper} {v : SV} {ow : Ow} (h : effO P cf tm hp G o = some (v, hp', ow)) (hc : CfgOk P ρ cf) (hw : ow.Ok ρ) (hr : RTm ρ ls tm a) (hG : evB ρ G = true) (hh : HOk ρ B w0 ls hp w) :
 upR P (fun z w' => ∃ ls', Ext ls ls' ∧ HOk ρ B w0 ls' hp' w' ∧ RV ρ ls' v z) ((execOp a.eval o).run P w) := by
 unfold effO at h
 split at h
 ·rename_i v' hp'' he
  cases h
  obtain ⟨ls', w', e1, e2, e3⟩ := opEff_ok (P := P) (w := w) he hr hG hh
  rcases e3 with ⟨s', z, hs, hrun, hz⟩ | ⟨hs, _⟩
  ·cases hs
   rw [hrun]
   exact ⟨ls', e1, e2, hz⟩
  ·cases hs
 ·rename_i hp'' he
  cases h
  obtain ⟨ls', w', e1, e2, e3⟩ := opEff_ok (P := P) (w := w) he hr hG hh
  rcases e3 with ⟨s', z, hs, _⟩ | ⟨_, hrun⟩
  ·cases hs
  ·rw [hrun]
   exact ⟨ls', e1, e2, trivial⟩
 ·exact opX_ok h hc hw hr hG hh
theorem epieceAt_ok {P : Program} {cf : Cfg} {sm : Sm} {hp hp' : SH} {neg : List E} {ops : Array Oper} {tm : Tms} {k c n : Nat} {its : List It} {v : SV} {ow : Ow} (h : epieceAt P cf sm hp neg ops tm k = some (c, n, its, v, hp', ow)) :
 itsC P cf sm hp neg ops tm k c n = some its ∧ chkC ops tm k c n = true ∧ effAt P cf hp neg ops tm c n its = some (v, hp', ow) ∧ itsC P cf sm hp' neg ops tm k c n = some its := by
 unfold epieceAt at h
 generalize (regK P cf sm hp neg ops tm k (headN [] (ops.toList.drop k) + k)).its.length = c' at h
 simp only at h
 split at h
 ·rename_i n' its' htry
  split at h
  ·rename_i v' hp'' ow' heff
   split at h
   ·rename_i its2 hits2
    split at h
    ·rename_i hs
     cases h
     obtain ⟨h1, h2⟩ := tryC_ok htry
     have e := sameIts_ok hs
     subst e
     exact ⟨h1, h2, heff, hits2⟩
    ·cases h
   ·cases h
  ·cases h
 ·cases h
theorem getD_set_true2 {L : Array Bool} {i : Nat} (h : L.getD i false = true) : L.getD i true = true := by
 cases hq : L.getD i true with
 | true => rfl
 | false => rw [getD_both hq] at h; cases h
theorem mdepB_ok {ops : Array Oper} {cs pd : List Nat} (h : mdepB ops cs pd = true) : ∀ j ∈ cs, ∃ o, ops[j]? = some o ∧ ∃ e ∈ o.after, Region.binds .any e = true ∧ e.on ∈ pd := fun j hj => by
 have := List.all_eq_true.1 h j hj
 split at this
 ·rename_i o ho
  obtain ⟨e, he, h2⟩ := List.any_eq_true.1 this
  simp only [Bool.and_eq_true] at h2
  obtain ⟨x, hx, h3⟩ := List.any_eq_true.1 h2.2
  exact ⟨o, ho, e, by simpa using he, h2.1, by rw [Nat.eq_of_beq_eq_true h3]; exact hx⟩
 ·cases this
theorem tryM_ok {P : Program} {cf : Cfg} {sm : Sm} {hp : SH} {neg : List E} {ops : Array Oper} {tm : Tms} {k c : Nat} : ∀ {d m n : Nat} {r : List It × SH × List (E × Ow)}, tryM P cf sm hp neg ops tm k c d m = some (n, r) → ∃ ps, chkC ops tm k c n = true ∧ (∀ x ∈ ps, k ≤ x ∧ x < n) ∧ runE P cf sm neg ops tm k n ps [] hp = some r
 | 0, m, n, r, h => by cases h
 | d + 1, m, n, r, h => by
  simp only [tryM] at h
  split at h
  ·rename_i hchk
   split at h
   ·rename_i hps
    split at h
    ·rename_i r' hr
     cases h
     refine ⟨_, hchk, fun x hx => ?_, hr⟩
     have := List.all_eq_true.1 hps x hx
     simp only [Bool.and_eq_true] at this
     exact ⟨Nat.le_of_ble_eq_true this.1, Nat.le_of_ble_eq_true this.2⟩
    ·exact tryM_ok h
   ·exact tryM_ok h
  ·exact tryM_ok h
theorem mpieceAt_ok {P : Program} {cf : Cfg} {sm : Sm} {hp : SH} {neg : List E} {ops : Array Oper} {tm : Tms} {k n : Nat} {r : List It × SH × List (E × Ow)} (h : mpieceAt P cf sm hp neg ops tm k = some (n, r)) : ∃ c ps, chkC ops tm k c n = true ∧ (∀ x ∈ ps, k ≤ x ∧ x < n) ∧ runE P cf sm neg ops tm k n ps [] hp = some r := by
 unfold mpieceAt at h
 obtain ⟨ps, h1, h2, h3⟩ := tryM_ok h
 exact ⟨_, ps, h1, h2, h3⟩
theorem knownL_val {all : Array Oper} {tm : Tms} {k : Nat} : ∀ it ∈ knownL all tm k, it.isVal = true := fun it hit => by
 unfold knownL at hit
 obtain ⟨j, _, rfl⟩ := List.mem_map.1 hit
 rfl
theorem itsP_at {P : Program} {cf : Cfg} {sm : Sm} {hp : SH} {neg : List E} {all : Array Oper} {tm : Tms} {k n : Nat} {fx : List (Nat × Tm)} {its : List It} {os : List (E × Ow)} (hkn : k ≤ n) (hn : n ≤ all.size) (h : itsP P cf sm hp neg all (maskT all n tm) fx ((all.toList.take n).drop k) (knownL all tm k) [] = some (its, os)) :
 its.length = n ∧ (∀ it ∈ its, it.isVal = true) ∧ Pre (knownL all tm k) its ∧ ∀ j o, k ≤ j → j < n → lookF fx j = none → all[j]? = some o → ItOk P cf sm hp neg all (maskT all n tm) its os j o := by
 obtain ⟨i1, i2, i3, _, i4⟩ := itsP_ok h (fun i o hi => by
  rw [knownL_len]
  rw [List.getElem?_drop, List.getElem?_take] at hi
  split at hi
  ·simpa using hi
  ·cases hi) knownL_val
 rw [knownL_len] at i1 i4
 have hl : its.length = n := by
  rw [i1, List.length_drop, List.length_take, Array.length_toList]
  omega
 rw [hl] at i4
 exact ⟨hl, i2, i3, i4⟩
theorem runE_ok {P : Program} {cf : Cfg} {ρ : Env} {B : Nat} {w0 : World} {sm : Sm} {neg : List E} {all : Array Oper} {tm : Tms} {k n : Nat} {r : Option Nat} {ds : List Deferred} {Q : Exit → Act → World → Prop} {itsF : List It} {hpF : SH} (hsm : SmOk P ρ sm) (hc : CfgOk P ρ cf) (hneg : ∀ e ∈ neg, evB ρ e = false)
 (hdn : downB .any all = true) (hB : bndB .any all n = true) (hkn : k ≤ n) (hn : n ≤ all.size)
 (hd : (∀ (i d : Nat), i < n → dstOf all i = some d → d < tm.n) ∧ ∀ (i j d : Nat), i < n → j < n → i ≠ j → dstOf all i = some d → dstOf all j ≠ some d) :
 ∀ {ps : List Nat} {done : List (Nat × Tm)} {hp : SH} {ows : List (E × Ow)} {its : List It} {os : List (E × Ow)} {ls : Ls} {L : Array Bool} {a : Act} {w : World}, runE P cf sm neg all tm k n ps done hp = some (itsF, hpF, ows) → (∀ x ∈ ps, k ≤ x ∧ x < n) → (∀ x ∈ ows, evB ρ x.1 = true → x.2.Ok ρ) →
  itsP P cf sm hp neg all (maskT all n tm) (done ++ unkL ps) ((all.toList.take n).drop k) (knownL all tm k) [] = some (its, os) → Chn ρ cf B w0 ls hp tm all n k ds its (done.map fun x => x.1) ps L a w →
  (∀ ls' a' w', Ext ls ls' → RTm ρ ls' (lstT all itsF (headL all.size n) n tm) a' → a'.defers = ds → HOk ρ B w0 ls' hpF w' → wpAnyIn (fen r) 0 P .any all Q (all.size - n) (headL all.size n) a' w') →
  wpAnyIn (fen r) 0 P .any all Q (unl L n + (all.size - n)) L a w
 | [], done, hp, ows, its, os, ls, L, a, w, h, _, how, hits, hch, hk => by
  simp only [runE] at h
  simp only [unkL, List.map_nil, List.append_nil] at hits
  rw [hits] at h
  cases h
  obtain ⟨i1, i2, i3, i5⟩ := itsP_at hkn hn hits
  exact mp_end hsm hc hneg hdn hB hn hd i2 how (fun j o h1 h2 h3 h4 => i5 j o h1 h2 (lookF_none fun x hx e => h3 (List.mem_map.2 ⟨x, hx, e⟩)) h4) hch fun a' w' h1 h2 h3 => hk ls a' w' (Ext.refl ls) h1 h2 h3
 | c :: ps, done, hp, ows, its, os, ls, L, a, w, h, hps, how, hits, hch, hk => by
  simp only [runE] at h
  rw [hits] at h
  simp only at h
  split at h
  ·rename_i v hp' ow heff
   split at h
   ·rename_i its' os' hits'
    split at h
    ·rename_i hcond
     split at h
     ·rename_i itsF' hpF' ows' hrun
      cases h
      simp only [Bool.and_eq_true, Bool.not_eq_true'] at hcond
      obtain ⟨⟨hsame, hdep⟩, hnot⟩ := hcond
      have hcs : c ∉ ps := fun hm => by
       have := List.any_eq_false.1 hnot c hm
       simp at this
      have e := sameIts_ok hsame
      subst e
      obtain ⟨i1, i2, i3, i5⟩ := itsP_at hkn hn hits
      obtain ⟨hkc, hcn⟩ := hps c (List.mem_cons_self ..)
      refine mp_in hsm hc hneg hdn hB hn hd i2 hcn (fun x hx => how x (List.mem_append_left _ hx)) (fun j o h1 h2 h3 h4 h5 h6 => i5 j o h1 h2 (lookF_none fun x hx e => ?_) h6) (mdepB_ok hdep) (fun L a w o hch' hrd ho => ?_) _ L a w rfl hch
      ·rcases List.mem_append.1 hx with hx | hx
       ·exact h3 (List.mem_map.2 ⟨x, hx, e⟩)
       ·obtain ⟨y, hy, rfl⟩ := List.mem_map.1 hx
        have e : y = j := e
        subst e
        rcases List.mem_cons.1 hy with hy | hy
        ·exact h4 hy
        ·exact h5 hy
      ·obtain ⟨N, _, _, hm⟩ := hch'.mid
       have hsee := hm.see hch'.inv ho hrd
       unfold effAt at heff
       rw [ho] at heff
       simp only at heff
       split at heff
       ·rename_i Gd hg
        split at heff
        ·rename_i hT
         have hGd : evB ρ Gd = true := isT_ok hT
         have hwd := guardOf_ok hg hsee hneg
         have hdo : dstOf all c = o.dst := by unfold dstOf; rw [ho]; rfl
         unfold wpOpIn
         simp only [ho]
         rw [if_pos (hwd.trans hGd)]
         refine upR.wp (upR.mono (fun z w'' hz => ?_) (effO_ok heff hc (how _ (List.mem_append_right _ (List.mem_cons_self ..)) rfl) hsee hGd hm.heap))
         obtain ⟨ls', e1, e2, e3⟩ := hz
         rw [← hdo]
         have hnx := mp_next (dn' := ((c, Tm.mk (.bc true) v) :: (depsT all its c ++ done)).map fun x => x.1) hn hd i2 i1 hcn hkc hcs (fun i hi => by
          obtain ⟨x, hx, rfl⟩ := List.mem_map.1 hi
          rcases List.mem_cons.1 hx with hx | hx
          ·left; rw [hx]
          ·right
           rcases List.mem_append.1 hx with hx | hx
           ·unfold depsT at hx
            rw [ho] at hx
            obtain ⟨e, he, hx⟩ := List.mem_filterMap.1 hx
            split at hx
            ·rename_i hbd
             split at hx
             ·cases hx
              obtain ⟨_, o', ho', hdp⟩ := mem_ready.1 hrd
              have : o' = o := Option.some.inj (ho'.symm.trans ho)
              subst this
              exact getD_set_true2 (hdp e (by simpa using he) hbd)
             ·cases hx
            ·cases hx
           ·exact hch'.dn _ (List.mem_map.2 ⟨x, hx, rfl⟩)) hch' hrd e1 e2 (RT_true e3)
         exact runE_ok hsm hc hneg hdn hB hkn hn hd hrun (fun x hx => hps x (List.mem_cons_of_mem _ hx)) (fun x hx => how x (List.mem_append_right _ (List.mem_cons_of_mem _ hx))) hits' hnx fun ls'' a' w' x1 x2 x3 x4 => hk ls'' a' w' (e1.trans x1) x2 x3 x4
        ·cases heff
       ·cases heff
     ·cases h
    ·cases h
   ·cases h
  ·cases h
theorem mpiece_ok {P : Program} {cf : Cfg} {ρ : Env} {B : Nat} {w0 w : World} {ls : Ls} {hp hpF : SH} {a : Act} {sm : Sm} {neg : List E} {all : Array Oper} {tm : Tms} {k c n : Nat} {r : Option Nat} {ds : List Deferred} {Q : Exit → Act → World → Prop} {ps : List Nat} {itsF : List It} {ows : List (E × Ow)} (hsm : SmOk P ρ sm) (hc : CfgOk P ρ cf) (hneg : ∀ e ∈ neg, evB ρ e = false)
 (hr : RTm ρ ls tm a) (hdf : a.defers = ds) (hh : HOk ρ B w0 ls hp w) (hchk : chkC all tm k c n = true) (hps : ∀ x ∈ ps, k ≤ x ∧ x < n) (hrun : runE P cf sm neg all tm k n ps [] hp = some (itsF, hpF, ows)) (how : ∀ x ∈ ows, evB ρ x.1 = true → x.2.Ok ρ)
 (hk : ∀ ls' a' w', Ext ls ls' → RTm ρ ls' (lstT all itsF (headL all.size n) n tm) a' → a'.defers = ds → HOk ρ B w0 ls' hpF w' → wpAnyIn (fen r) 0 P .any all Q (all.size - n) (headL all.size n) a' w') :
 wpAnyIn (fen r) 0 P .any all Q (all.size - k) (headL all.size k) a w := by
 obtain ⟨hkc, hcn, hn, hdn, hB, hd⟩ := chkC_ok hchk
 have hits : ∃ its os, itsP P cf sm hp neg all (maskT all n tm) ([] ++ unkL ps) ((all.toList.take n).drop k) (knownL all tm k) [] = some (its, os) := by
  cases ps with
  | nil =>
   simp only [runE] at hrun
   split at hrun
   ·rename_i its os h; exact ⟨its, os, h⟩
   ·cases hrun
  | cons c ps =>
   simp only [runE] at hrun
   split at hrun
   ·rename_i its os h; exact ⟨its, os, h⟩
   ·cases hrun
 obtain ⟨its, os, hits⟩ := hits
 obtain ⟨i1, i2, i3, i5⟩ := itsP_at (by omega) hn hits
 have hlk : ∀ {i : Nat}, i < n → (headL all.size k).getD i false = true → i < k := fun {i} hi hl => by
  rw [headL_get _ (by omega)] at hl
  exact of_decide_eq_true hl
 have h0 := runE_ok (L := headL all.size k) hsm hc hneg hdn hB (by omega) hn hd hrun hps how hits
  ⟨headL_inv hdn (by omega), fun i hi => by rw [headL_get _ (by omega)]; exact decide_eq_true hi, fun i hi => (by cases hi), fun i hi => by
    have := hps i hi
    rw [headL_get _ (by omega)]; exact decide_eq_false (by omega), w.heap.size, hh.size, fun i x b hx hb => rd_blk hh.size (hh.ent i x hx) hb,
    hdf, hr.1.symm, hh, Nat.le_refl _, fun d t hdn ht _ => hr.2 d t hdn ht, fun _ => none, fun i it d hi hl hit' hdi => by
     have h2 := i3 _ _ (knownL_get (all := all) (tm := tm) (hlk hi hl))
     rw [hit'] at h2
     cases h2
     exact knownT_ok hr hdi, fun i j x y d e b hi hj _ hl _ hx _ fx => by rw [isVal_fresh (i2 x (List.mem_of_getElem? hx))] at fx; cases fx⟩ hk
 rw [unl_headL n hn] at h0
 rwa [show n - k + (all.size - n) = all.size - k by omega] at h0
theorem splitI_ok {P : Program} {ρ : Env} {ls : Ls} {tm : Tms} {a : Act} {l : List Oper} {e : E} {lo : Int} {n : Nat} (hr : RTm ρ ls tm a) (h : splitI P tm l = some (e, lo, n)) : lo ≤ evI ρ e ∧ evI ρ e < lo + n := by
 unfold splitI at h
 split at h
 ·cases h
 ·split at h
  ·obtain ⟨rfl, h1⟩ := smallR_ok hr h; exact h1
  ·cases h
theorem splitD_ok {P : Program} {ρ : Env} {ls : Ls} {cf : Cfg} {sm : Sm} {hp : SH} {neg : List E} {ops : Array Oper} {tm : Tms} {a : Act} {k : Nat} {l : List Oper} {e : E} {lo : Int} {n : Nat} (hr : RTm ρ ls tm a) (h : splitD P cf sm hp neg ops tm k l = some (e, lo, n)) : lo ≤ evI ρ e ∧ evI ρ e < lo + n := by
 unfold splitD at h
 obtain ⟨o, _, ho⟩ := List.exists_of_findSome?_eq_some h
 split at ho
 ·obtain ⟨rfl, h1⟩ := smallR_ok hr ho; exact h1
 ·cases ho
theorem tryP_ok {P : Program} {cf : Cfg} {sm : Sm} {hp : SH} {neg : List E} {ops : Array Oper} {tm : Tms} {k c : Nat} : ∀ {d m n : Nat} {ps : List Nat}, tryP P cf sm hp neg ops tm k c d m = some (n, ps) → chkC ops tm k c n = true ∧ ∀ x ∈ ps, k ≤ x ∧ x < n
 | 0, m, n, ps, h => by cases h
 | d + 1, m, n, ps, h => by
  simp only [tryP] at h
  split at h
  ·rename_i hchk
   split at h
   ·rename_i hps
    cases h
    rw [Bool.and_eq_true] at hps
    refine ⟨hchk, fun x hx => ?_⟩
    have := List.all_eq_true.1 hps.1 x hx
    simp only [Bool.and_eq_true] at this
    exact ⟨Nat.le_of_ble_eq_true this.1, Nat.le_of_ble_eq_true this.2⟩
   ·cases h
  ·exact tryP_ok h
theorem planAt_ok {P : Program} {cf : Cfg} {sm : Sm} {hp : SH} {neg : List E} {ops : Array Oper} {tm : Tms} {k n : Nat} {ps : List Nat} (h : planAt P cf sm hp neg ops tm k = some (n, ps)) : ∃ c, chkC ops tm k c n = true ∧ ∀ x ∈ ps, k ≤ x ∧ x < n := by
 unfold planAt at h
 exact ⟨_, tryP_ok h⟩
theorem chkC_at {ops : Array Oper} {tm : Tms} {k c c' n : Nat} (h : chkC ops tm k c n = true) (h1 : k ≤ c') (h2 : c' < n) : chkC ops tm k c' n = true := by
 simp only [chkC, Bool.and_eq_true] at h ⊢
 obtain ⟨⟨⟨⟨⟨_, _⟩, h3⟩, h4⟩, h5⟩, h6⟩ := h
 exact ⟨⟨⟨⟨⟨Nat.ble_eq_true_of_le h1, Nat.ble_eq_true_of_le h2⟩, h3⟩, h4⟩, h5⟩, h6⟩
theorem chn_its {ρ : Env} {B : Nat} {w0 w : World} {ls : Ls} {hp : SH} {tm : Tms} {all : Array Oper} {a : Act} {cf : Cfg} {ds : List Deferred} {k c n : Nat} {its its' : List It} {dn ps : List Nat} {L : Array Bool} {late : List Bool}
 (h : Chn ρ cf B w0 ls hp tm all n k ds its dn ps L a w) (hv : ∀ it ∈ its, it.isVal = true) (hs : sameX late c 0 its its' = true) (hl : ∀ j, late.getD j false = true → j ≠ c → L.getD j false = false) : Chn ρ cf B w0 ls hp tm all n k ds its' dn ps L a w := by
 obtain ⟨s1, s2, s3⟩ := sameX_ok hs
 obtain ⟨inv, lo, hdn, pd, N, h1, h2, hm⟩ := h
 refine ⟨inv, lo, hdn, pd, N, h1, h2, hm.dfr, hm.sz, hm.heap, hm.base, hm.old, fun _ => none, fun i it d hi hli hit hdi => ?_, fun i j x y d e b _ _ _ _ _ hx _ fx => by rw [isVal_fresh (s2 x (List.mem_of_getElem? hx))] at fx; cases fx⟩
 have hiv := s2 it (List.mem_of_getElem? hit)
 have hit' : its[i]? = some it := by
  rcases s3 i with ⟨h3, h4⟩ | h3
  ·rw [Nat.zero_add] at h3 h4
   rw [hl i h3 h4] at hli; cases hli
  ·rw [h3]; exact hit
 obtain ⟨ob, hob⟩ := hm.done i it d hi hli hit' hdi
 cases it with
 | val t => exact hob
 | new sl ty cs => cases hiv
 | res c es => cases hiv
 | put _ _ => cases hiv
theorem late_set {all : Array Oper} {n c j : Nat} {L : Array Bool} (inv : HeadInv .any all n L) (hc : L.getD c true = false) (h : (lateL all c n).getD j false = true) (hj : j ≠ c) : (L.setIfInBounds c true).getD j false = false := by
 rw [getD_set_ne false (fun e => hj e.symm)]
 exact late_ok (getD_both hc) (fun j o ho hx e he hb => inv.closed j o ho hx e he hb) n j h
theorem andL_mem {R : Env → SV → SH → Prop} {ρ : Env} : ∀ {l : List Fm} {f : Fm}, (andL l).holds R ρ → f ∈ l → f.holds R ρ
 | [x], f, h, hm => by
  rw [List.mem_singleton.1 hm]
  exact h
 | x :: y :: l, f, h, hm => by
  rcases List.mem_cons.1 hm with rfl | hm
  ·exact h.1
  ·exact andL_mem h.2 hm
theorem dropN_mem {c x : Nat} {ps : List Nat} : x ∈ dropN c ps ↔ x ∈ ps ∧ x ≠ c := by
 unfold dropN
 rw [List.mem_filter, Bool.not_eq_true']
 constructor
 ·rintro ⟨h1, h2⟩
  exact ⟨h1, fun e => by subst e; simp at h2⟩
 ·rintro ⟨h1, h2⟩
  exact ⟨h1, by
   cases hb : Nat.beq c x with
   | false => rfl
   | true => exact absurd (Nat.eq_of_beq_eq_true hb).symm h2⟩
theorem depB_no {ops : Array Oper} {n : Nat} {ps : List Nat} {c : Nat} {L : Array Bool} (h : depB ops n ps c = true) (inv : HeadInv .any ops n L) (hpd : ∀ i ∈ ps, L.getD i true = false) (hrd : c ∈ Region.ready .any ops L) : False := by
 unfold depB at h
 obtain ⟨p, hp, h2⟩ := List.any_eq_true.1 h
 simp only [Bool.and_eq_true] at h2
 obtain ⟨o, ho, e, he, hb, h3⟩ := late_edge n c h2.2
 obtain ⟨_, o', ho', hdp⟩ := mem_ready.1 hrd
 have : o = o' := Option.some.inj (ho.symm.trans ho')
 subst this
 have h4 := hdp e he hb
 rcases h3 with h3 | ⟨m, h3⟩
 ·rw [h3, getD_both (hpd p hp)] at h4; cases h4
 ·rw [late_ok (getD_both (hpd p hp)) (fun j o ho hx e he hb => inv.closed j o ho hx e he hb) m e.on h3] at h4; cases h4
theorem effQ_ok {P : Program} {cf : Cfg} {ρ : Env} {B : Nat} {w0 w : World} {ls : Ls} {hp hp' : SH} {tm : Tms} {all : Array Oper} {a : Act} {sm : Sm} {neg : List E} {c n : Nat} {its : List It} {v : SV} {ow : Ow} {o : Oper} (heff : effQ P cf sm hp neg all tm c n its = some (v, hp', ow)) (ho : all[c]? = some o) (hsm : SmOk P ρ sm) (hc : CfgOk P ρ cf) (hneg : ∀ e ∈ neg, evB ρ e = false)
 (hsee : RTm ρ ls (seeT all its o.after.toList (maskT all n tm)) a) (hh : HOk ρ B w0 ls hp w) (hw : ow.Ok ρ) :
 Region.wanted o (yielded all a.tmps) = true ∧ upR P (fun z w' => ∃ ls', Ext ls ls' ∧ HOk ρ B w0 ls' hp' w' ∧ RV ρ ls' v z) ((execOp a.eval o).run P w) := by
 unfold effQ at heff
 rw [ho] at heff
 simp only at heff
 split at heff
 ·rename_i Gd hg
  split at heff
  ·rename_i hT
   have hGd : evB ρ Gd = true := isT_ok hT
   have hwd := guardOf_ok hg hsee hneg
   refine ⟨hwd.trans hGd, ?_⟩
   split at heff
   ·rename_i r hr
    cases heff
    exact effO_ok hr hc hw hsee hGd hh
   ·split at heff
    ·rename_i v' ow' hq
     cases heff
     have hs := opQ2_ok (P := P) (a := a) (w := w) hsm hq hc.q hw hsee hGd hh
     generalize (execOp a.eval o).run P w = r at *
     cases r with
     | ok nx w' =>
      cases nx <;> simp only [setUpon] at hs <;> simp only [upR]
      case value u => obtain ⟨rfl, h2⟩ := hs; exact ⟨ls, Ext.refl _, hh, h2⟩
      case skip => obtain ⟨rfl, h2⟩ := hs; exact ⟨ls, Ext.refl _, hh, h2⟩
      case enter f args =>
       obtain ⟨rfl, hcl⟩ := hs
       exact hcl.mono fun e w'' ⟨u, he, hu, hb⟩ => ⟨u, he, ls, Ext.refl _, hb, hu⟩
     | halt x w' => exact hs.elim
    ·cases heff
  ·cases heff
 ·cases heff
theorem chn_back {ρ : Env} {B : Nat} {w0 w : World} {ls : Ls} {hp : SH} {tm : Tms} {all : Array Oper} {a : Act} {cf : Cfg} {ds : List Deferred} {k c n : Nat} {its : List It} {dn : List Nat} {ps : List Nat} {L : Array Bool} {t : Tm} {z : Value}
 (h : PmOk all tm k n c ps its dn L) (hdf : a.defers = ds) (hr : LstR ρ ls all its L n tm a) (hh : HOk ρ B w0 ls hp w) (hz : RT ρ ls t z) :
 Chn ρ cf B w0 ls hp tm all n k ds (its.set c (.val t)) (c :: dn) ps (L.setIfInBounds c true) (a.put (dstOf all c) z) w := by
 obtain ⟨hkc, hcn, hn, hdn, hB, hd⟩ := chkC_ok h.chk
 have hlc := h.pd c (List.mem_cons_self ..)
 have hlen := h.len
 have hv' : ∀ it ∈ its.set c (.val t), it.isVal = true := fun it hit => by
  rcases List.mem_or_eq_of_mem_set hit with h1 | h1
  ·exact h.val it h1
  ·subst h1; rfl
 have noF : ∀ {i : Nat} {x : It}, (its.set c (.val t))[i]? = some x → x.fresh = true → False := fun hx fx => by rw [isVal_fresh (hv' _ (List.mem_of_getElem? hx))] at fx; cases fx
 refine ⟨h.inv.set h.rdy hcn, fun i hi => by rw [getD_set_ne true (by omega)]; exact h.lo i hi, fun i hi => ?_, fun i hi => by rw [getD_set_ne true (ne_mem hi h.not)]; exact h.pd i (List.mem_cons_of_mem _ hi),
  w.heap.size, hh.size, fun i x b hx hb => rd_blk hh.size (hh.ent i x hx) hb, ?_, ?_, hh, Nat.le_refl _, ?_, fun _ => none, ?_, fun i j x y d e b _ _ _ _ _ hx _ fx => (noF hx fx).elim⟩
 ·by_cases hic : c = i
  ·rw [← hic]; exact getD_set_true' _ _
  ·rw [getD_set_ne true hic]
   rcases List.mem_cons.1 hi with h1 | h1
   ·exact absurd h1.symm hic
   ·exact h.dn i h1
 ·cases dstOf all c <;> exact hdf
 ·cases dstOf all c with
  | none => exact hr.1
  | some d => show (a.tmps.setIfInBounds d z).size = _; rw [Array.size_setIfInBounds]; exact hr.1
 ·intro d y hdn hy hno
  have hnc : dstOf all c ≠ some d := hno c hcn (getD_set_self hlc)
  rcases put_getD (a := a) (d := dstOf all c) (u := z) (e := d) with ⟨_, h2, _⟩ | ⟨h1, _⟩
  ·exact (hnc h2).elim
  ·rw [h1]; exact hr.2.1 d y hdn hy fun i hi hl => hno i hi (getD_set_true hl)
 ·intro i it d hi hl hit' hdi
  by_cases hic : i = c
  ·subst hic
   rw [List.getElem?_set_self (by rw [hlen]; exact hi)] at hit'
   cases hit'
   show RT ρ ls t _
   rcases put_getD (a := a) (d := dstOf all i) (u := z) (e := d) with ⟨h1, _, _⟩ | ⟨_, h2⟩
   ·rw [h1]; exact hz
   ·rcases h2 with h2 | h2
    ·exact (h2 hdi).elim
    ·have := hd.1 i d hcn hdi
     have := hr.1
     omega
  ·rw [List.getElem?_set_ne (fun e => hic e.symm)] at hit'
   rw [getD_set_ne false (fun e => hic e.symm)] at hl
   rcases put_getD (a := a) (d := dstOf all c) (u := z) (e := d) with ⟨_, h2, _⟩ | ⟨h1, _⟩
   ·exact (hd.2 c i d hcn hi (fun e => hic e.symm) h2 hdi).elim
   ·rw [h1]
    have hiv := h.val it (List.mem_of_getElem? hit')
    cases it with
    | val t' => exact hr.2.2 i t' d hi hl hit' hdi
    | new sl ty cs => cases hiv
    | res c es => cases hiv
    | put _ _ => cases hiv
set_option maxHeartbeats 2000000 in
theorem nxtP_ok {sm : Sm} {hp : SH} {neg : List E} {all : Array Oper} {tm : Tms} {k n c : Nat} {its0 : List It} {done : List (Nat × Tm)} {ps ps' : List Nat} (h : nxtP P cf sm hp neg all tm k n c its0 done ps = some ps') :
 (∀ x ∈ ps', x ∈ ps) ∧ ∃ its' os, itsP P cf sm hp neg all (maskT all n tm) (done ++ unkL ps') ((all.toList.take n).drop k) (knownL all tm k) [] = some (its', os) ∧ sameX (lateL all c n) c 0 its0 its' = true := by
 have ok : ∀ {ps : List Nat}, nxOk P cf sm hp neg all tm k n c its0 done ps = true → ∃ its' os, itsP P cf sm hp neg all (maskT all n tm) (done ++ unkL ps) ((all.toList.take n).drop k) (knownL all tm k) [] = some (its', os) ∧ sameX (lateL all c n) c 0 its0 its' = true := fun {ps} hk => by
  unfold nxOk at hk
  split at hk
  ·rename_i its' os hits
   exact ⟨its', os, hits, hk⟩
  ·cases hk
 unfold nxtP at h
 split at h
 ·rename_i hk
  cases h
  simp only [Bool.and_eq_true] at hk
  exact ⟨fun x hx => (List.mem_filter.1 hx).1, ok hk.2⟩
 ·split at h
  ·rename_i hk
   cases h
   exact ⟨fun x hx => hx, ok hk⟩
  ·cases h
theorem Chn.less {ρ : Env} {ls : Ls} {hp : SH} {tm : Tms} {all : Array Oper} {n k : Nat} {ds : List Deferred} {its : List It} {dn pd pd' : List Nat} {L : Array Bool} {a : Act} {w : World} (h : Chn ρ cf B w0 ls hp tm all n k ds its dn pd L a w) (hs : ∀ x ∈ pd', x ∈ pd) : Chn ρ cf B w0 ls hp tm all n k ds its dn pd' L a w :=
 ⟨h.inv, h.lo, h.dn, fun i hi => h.pd i (hs i hi), h.mid⟩
theorem chainM_ok {rec : Rec} (ih00 : RecOk P cf rec) {ρ : Env} (hc : CfgOk P ρ cf) {sm : Sm} (hsm : SmOk P ρ sm) {f0 : FuncId} {fn0 : Func} {R0 : Ending → World → Prop} {B : Nat} {w0 : World} {neg : List E} {all : Array Oper} {tm : Tms} {k n c0 : Nat} {df : List Nat} {rd : Option Nat} {K : List Fr} {Q : Exit → Act → World → Prop} {ds : List Deferred} {r : Option Nat}
 (hneg : ∀ e ∈ neg, evB ρ e = false) (hchk : chkC all tm k c0 n = true) :
 ∀ {m : Nat} {ps : List Nat} {done : List (Nat × Tm)} {hp : SH} {its : List It} {os : List (E × Ow)} {ls : Ls} {L : Array Bool} {a : Act} {w : World}, (chainM P cf sm rec f0 fn0 neg all tm k n df rd K m ps done hp).holds (fun ρ => LeafOk ρ B w0 R0) ρ → (∀ x ∈ ps, k ≤ x ∧ x < n) →
  itsP P cf sm hp neg all (maskT all n tm) (done ++ unkL ps) ((all.toList.take n).drop k) (knownL all tm k) [] = some (its, os) → Chn ρ cf B w0 ls hp tm all n k ds its (done.map fun x => x.1) ps L a w →
  Cont P B w0 fn0 R0 ρ ls r K Q → RdR ls rd r → DfR ls df ds →
  wpAnyIn (fen r) 0 P .any all Q (unl L n + (all.size - n)) L a w
 | m, [], done, hp, its, os, ls, L, a, w, h, _, hits, hch, hk, hrd, hdf => by
  obtain ⟨hkc, hcn, hn, hdn, hB, hd⟩ := chkC_ok hchk
  simp only [chainM] at h
  simp only [unkL, List.map_nil, List.append_nil] at hits
  rw [hits] at h
  obtain ⟨how, h⟩ := owsF_ok h
  obtain ⟨i1, i2, i3, i5⟩ := itsP_at (by omega) hn hits
  exact mp_end hsm hc hneg hdn hB hn hd i2 how (fun j o h1 h2 h3 h4 => i5 j o h1 h2 (lookF_none fun x hx e => h3 (List.mem_map.2 ⟨x, hx, e⟩)) h4) hch fun a' w' h1 h2 h3 =>
   ih00 ρ hc f0 fn0 R0 B w0 (.ops (true, all) (all.toList.drop n)) K ⟨lstT all its (headL all.size n) n tm, hp, neg⟩ df rd ls a' w' Q ds r hk hrd h1 hdf h2 h3 hneg h n hn rfl
 | 0, p :: ps, done, hp, its, os, ls, L, a, w, h, hps, hits, hch, hk, hrd, hdf => by
  simp only [chainM] at h
  exact h.elim
 | m + 1, p :: ps, done, hp, its, os, ls, L, a, w, h, hps, hits, hch, hk, hrd, hdf => by
  obtain ⟨_, _, hn, hdn, hB, hd⟩ := chkC_ok hchk
  obtain ⟨hkp, hpn⟩ := hps p (List.mem_cons_self ..)
  simp only [chainM] at h
  rw [hits] at h
  simp only at h
  obtain ⟨how, h⟩ := owsF_ok h
  obtain ⟨i1, i2, i3, i5⟩ := itsP_at (by omega) hn hits
  refine mp_any hsm hc hneg hdn hB hn hd i2 hpn how (List.mem_cons_self ..) (fun j o h1 h2 h3 h4 h6 => i5 j o h1 h2 (lookF_none fun x hx e => ?_) h6) (fun c hcm L a w o hch' hrdy ho => ?_) _ L a w rfl hch
  ·rcases List.mem_append.1 hx with hx | hx
   ·exact h3 (List.mem_map.2 ⟨x, hx, e⟩)
   ·obtain ⟨y, hy, rfl⟩ := List.mem_map.1 hx
    have e : y = j := e
    subst e
    exact h4 hy
  ·obtain ⟨hkc, hcn⟩ := hps c hcm
   have hcs : c ∉ dropN c (p :: ps) := fun hm => (dropN_mem.1 hm).2 rfl
   have hch' : Chn ρ cf B w0 ls hp tm all n k ds its (done.map fun x => x.1) (c :: dropN c (p :: ps)) L a w := ⟨hch'.inv, hch'.lo, hch'.dn, fun i hi => by
    rcases List.mem_cons.1 hi with e | hi
    ·rw [e]; exact hch'.pd c hcm
    ·exact hch'.pd i (dropN_mem.1 hi).1, hch'.mid⟩
   cases hdep : depB all n (p :: ps) c with
   | true =>
    refine (depB_no hdep hch'.inv (fun i hi => ?_) hrdy).elim
    by_cases hic : i = c
    ·rw [hic]; exact hch'.pd c (List.mem_cons_self ..)
    ·exact hch'.pd i (List.mem_cons_of_mem _ (dropN_mem.2 ⟨hi, hic⟩))
   | false =>
    have h := andL_mem h (List.mem_map.2 ⟨c, List.mem_filter.2 ⟨hcm, by rw [hdep]; rfl⟩, rfl⟩)
    obtain ⟨N, _, _, hm⟩ := hch'.mid
    have hsee := hm.see hch'.inv ho hrdy
    have hdo : dstOf all c = o.dst := by unfold dstOf; rw [ho]; rfl
    have hdeps : ∀ x ∈ depsT all its c ++ done, L.getD x.1 true = true := fun x hx => by
     rcases List.mem_append.1 hx with hx | hx
     ·unfold depsT at hx
      rw [ho] at hx
      obtain ⟨e, he, hx⟩ := List.mem_filterMap.1 hx
      split at hx
      ·rename_i hbd
       split at hx
       ·cases hx
        obtain ⟨_, o', ho', hdp⟩ := mem_ready.1 hrdy
        have : o' = o := Option.some.inj (ho'.symm.trans ho)
        subst this
        exact getD_set_true2 (hdp e (by simpa using he) hbd)
       ·cases hx
      ·cases hx
     ·exact hch'.dn _ (List.mem_map.2 ⟨x, hx, rfl⟩)
    split at h
    ·rename_i v hp' ow heff
     obtain ⟨hw1, h⟩ := owF_ok h
     split at h
     ·rename_i ps' hnxt
      obtain ⟨hsub, its', os', hits', hsame⟩ := nxtP_ok hnxt
      ·obtain ⟨hwt, hup⟩ := effQ_ok heff ho hsm hc hneg hsee hm.heap (hw1 rfl)
       unfold wpOpIn
       simp only [ho]
       rw [if_pos hwt]
       refine upR.wp (upR.mono (fun z w'' hz => ?_) hup)
       obtain ⟨ls', e1, e2, e3⟩ := hz
       rw [← hdo]
       have hnx := mp_next (dn' := ((c, Tm.mk (.bc true) v) :: (depsT all its c ++ done)).map fun x => x.1) hn hd i2 i1 hcn hkc hcs (fun i hi => by
        obtain ⟨x, hx, rfl⟩ := List.mem_map.1 hi
        rcases List.mem_cons.1 hx with hx | hx
        ·left; rw [hx]
        ·right; exact hdeps x hx) hch' hrdy e1 e2 (RT_true e3)
       exact chainM_ok ih00 hc hsm hneg hchk h (fun x hx => hps x (dropN_mem.1 (hsub x hx)).1) hits' ((chn_its hnx (fun it hit => by
        rcases List.mem_or_eq_of_mem_set hit with h1 | h1
        ·exact i2 it h1
        ·subst h1; rfl) hsame fun j h1 h2 => late_set hch'.inv (hch'.pd c (List.mem_cons_self ..)) h1 h2).less hsub) (hk.ext e1) (hrd.ext e1) (hdf.ext e1)
     ·exact h.elim
    ·split at h
     ·rename_i f fn code vs hcall
      unfold callAt at hcall
      rw [ho] at hcall
      simp only at hcall
      split at hcall
      ·rename_i Gd hg
       split at hcall
       ·rename_i hT
        have hGd : evB ρ Gd = true := isT_ok hT
        have hwd := guardOf_ok hg hsee hneg
        unfold wpOpIn
        simp only [ho]
        rw [if_pos (hwd.trans hGd)]
        unfold callOf at hcall
        split at hcall
        ·rename_i f1 args at_ hop
         split at hcall
         ·rename_i f' first cap vs' hf hvs
          split at hcall
          ·rename_i fn' hfn
           split at hcall
           ·rename_i c' hbody
            cases hcall
            obtain ⟨f1, f2⟩ := hc.fns _ _ hfn
            obtain ⟨fs, cs, he', g1, g2⟩ := opd_ok hf hsee hGd
            have hargs := opds_ok hsee hGd hvs
            have hall : All2 (RV ρ ls) (first.map pvS ++ vs' ++ cap.map pvS) (fs ++ args.toList.map a.eval ++ cs) := ((all2_pv g1).append hargs).append (all2_pv g2)
            have hl := hall.len
            have e : args.map a.eval = (args.toList.map a.eval).toArray := by rw [← Array.toList_map]
            have hrun : (execOp a.eval o).run P w = .ok (.enter f (fs ++ args.toList.map a.eval ++ cs).toArray) w := by
             simp only [execOp, hop, resolve, he', Deferred.ofValue, Sem.run_bind, Sem.run_pure, Result.andThen_ok, invoke, e]
             rw [run_callFunc f1 (by rw [hbody]; rfl) f2]
             simp
            refine opIn_enter hrun (callsIn_of_wp_marks (R := afterCall _ Q a o.dst) f1 hbody trivial ?_)
            have hlst : LstR ρ ls all its L n tm a := ⟨hm.sz, hm.old, fun i t d h1 h2 h3 h4 => by obtain ⟨_, h⟩ := hm.done i (.val t) d h1 h2 h3 h4; exact h⟩
            have hpm : PmOk all tm k n c (dropN c (p :: ps)) its ((depsT all its c ++ done).map fun x => x.1) L := ⟨chkC_at hchk hkc hcn, i2, i1, hch'.inv, hch'.lo, fun i hi => by
             obtain ⟨x, hx, rfl⟩ := List.mem_map.1 hi
             exact hdeps x hx, hch'.pd, hrdy, fun x hx => hps x (dropN_mem.1 hx).1, hcs⟩
            refine ih00 ρ hc f0 fn0 R0 B w0 (.code code) (.pm f fn tm df rd all k n c (dropN c (p :: ps)) its (depsT all its c ++ done) :: K) ⟨initT fn.ntmps (first.map pvS ++ vs' ++ cap.map pvS), hp, neg⟩ [] none ls _ w _ [] none ⟨rfl, Q, r, a, ds, L, hk, hrd, hdf, hm.dfr, hlst, hpm, by rw [hdo]⟩ rfl (initT_ok hall ?_) trivial rfl hm.heap hneg h
            simp only [List.size_toArray]
           ·cases hcall
          ·cases hcall
         ·cases hcall
        ·cases hcall
       ·cases hcall
      ·cases hcall
     ·exact h.elim
theorem chain0_ok {rec : Rec} (ih00 : RecOk P cf rec) {ρ : Env} (hc : CfgOk P ρ cf) {sm : Sm} (hsm : SmOk P ρ sm) {f0 : FuncId} {fn0 : Func} {R0 : Ending → World → Prop} {B : Nat} {w0 w : World} {neg : List E} {all : Array Oper} {tm : Tms} {k n c0 : Nat} {df : List Nat} {rd : Option Nat} {K : List Fr} {Q : Exit → Act → World → Prop} {ds : List Deferred} {r : Option Nat} {hp : SH} {ls : Ls} {a : Act} {ps : List Nat}
 (hk : Cont P B w0 fn0 R0 ρ ls r K Q) (hrd : RdR ls rd r) (hr : RTm ρ ls tm a) (hdf : DfR ls df ds) (hd0 : a.defers = ds) (hh : HOk ρ B w0 ls hp w) (hneg : ∀ e ∈ neg, evB ρ e = false) (hchk : chkC all tm k c0 n = true) (hps : ∀ x ∈ ps, k ≤ x ∧ x < n)
 (h : (chainM P cf sm rec f0 fn0 neg all tm k n df rd K ps.length ps [] hp).holds (fun ρ => LeafOk ρ B w0 R0) ρ) :
 wpAnyIn (fen r) 0 P .any all Q (all.size - k) (headL all.size k) a w := by
 obtain ⟨hkc, hcn, hn, hdn, hB, hd⟩ := chkC_ok hchk
 have hits : ∃ its os, itsP P cf sm hp neg all (maskT all n tm) ([] ++ unkL ps) ((all.toList.take n).drop k) (knownL all tm k) [] = some (its, os) := by
  cases ps with
  | nil =>
   simp only [chainM] at h
   split at h
   ·rename_i its os h'; exact ⟨its, os, h'⟩
   ·exact h.elim
  | cons c ps =>
   simp only [List.length_cons, chainM] at h
   split at h
   ·rename_i its os h'; exact ⟨its, os, h'⟩
   ·exact h.elim
 obtain ⟨its, os, hits⟩ := hits
 obtain ⟨i1, i2, i3, i5⟩ := itsP_at (by omega) hn hits
 have hlk : ∀ {i : Nat}, i < n → (headL all.size k).getD i false = true → i < k := fun {i} hi hl => by
  rw [headL_get _ (by omega)] at hl
  exact of_decide_eq_true hl
 have h0 := chainM_ok (L := headL all.size k) ih00 hc hsm hneg hchk h hps hits
  ⟨headL_inv hdn (by omega), fun i hi => by rw [headL_get _ (by omega)]; exact decide_eq_true hi, fun i hi => (by cases hi), fun i hi => by
    have := hps i hi
    rw [headL_get _ (by omega)]; exact decide_eq_false (by omega), w.heap.size, hh.size, fun i x b hx hb => rd_blk hh.size (hh.ent i x hx) hb,
    hd0, hr.1.symm, hh, Nat.le_refl _, fun d t hdn ht _ => hr.2 d t hdn ht, fun _ => none, fun i it d hi hl hit' hdi => by
     have h2 := i3 _ _ (knownL_get (all := all) (tm := tm) (hlk hi hl))
     rw [hit'] at h2
     cases h2
     exact knownT_ok hr hdi, fun i j x y d e b hi hj _ hl _ hx _ fx => by rw [isVal_fresh (i2 x (List.mem_of_getElem? hx))] at fx; cases fx⟩ hk hrd hdf
 rw [unl_headL n hn] at h0
 rwa [show n - k + (all.size - n) = all.size - k by omega] at h0
theorem backM_ok {rec : Rec} (ih00 : RecOk P cf rec) {ρ : Env} (hc : CfgOk P ρ cf) {sm : Sm} (hsm : SmOk P ρ sm) {f0 : FuncId} {fn0 : Func} {R0 : Ending → World → Prop} {B : Nat} {w0 : World} {f : FuncId} {fn : Func} {tm : Tms} {df' : List Nat} {rd' : Option Nat} {all : Array Oper} {k n c : Nat} {ps : List Nat} {its : List It} {done : List (Nat × Tm)} {K : List Fr} {s : St} {df : List Nat} {ls : Ls} {a : Act} {w : World} {Q : Exit → Act → World → Prop} {ds : List Deferred} {r : Option Nat}
 (hk : Cont P B w0 fn0 R0 ρ ls r (.pm f fn tm df' rd' all k n c ps its done :: K) Q) (hr : RTm ρ ls s.tm a) (hdf : DfR ls df ds) (hd : a.defers = ds) (hh : HOk ρ B w0 ls s.hp w) (hn : ∀ e ∈ s.neg, evB ρ e = false) (h : (backM P cf sm rec f0 fn0 fn tm df' rd' all k n c ps its done K s df).holds (fun ρ => LeafOk ρ B w0 R0) ρ) : Q .normal a w ∧ Q .ret a w := by
 obtain ⟨_, Q', r', a', ds', L, k1, k2, k3, k4, k5, k6, rfl⟩ := hk
 unfold backM at h
 split at h
 ·rename_i v hp' hv
  split at h
  ·rename_i ps' hnxt
   obtain ⟨hsub, its', os', hits, hsame⟩ := nxtP_ok hnxt
   refine retV_ok hv hc.globs hr hdf hd hh fun z w' hz hw' => ?_
   exact chainM_ok ih00 hc hsm hn k6.chk h (fun x hx => k6.rng x (hsub x hx)) hits ((chn_its (chn_back k6 k4 k5 hw' (RT_true (nz_ok hn hz))) (fun it hit => by
    rcases List.mem_or_eq_of_mem_set hit with h1 | h1
    ·exact k6.val it h1
    ·subst h1; rfl) hsame fun j h1 h2 => late_set k6.inv (k6.pd c (List.mem_cons_self ..)) h1 h2).less hsub) k1 k2 k3
  ·exact h.elim
 ·exact h.elim
set_option maxHeartbeats 2000000 in
theorem stepOps_ok {rec : Rec} (ih00 : RecOk P cf rec) {ρ : Env} (hc : CfgOk P ρ cf) {sm : Sm} (hsm : SmOk P ρ sm) {all : Bool × Array Oper} {l0 : List Oper} {f0 : FuncId} {fn0 : Func} {R0 : Ending → World → Prop} {B : Nat} {w0 : World} {K : List Fr} {s : St} {df : List Nat} {rd : Option Nat} {ls : Ls} {a : Act} {w : World} {Q : Exit → Act → World → Prop} {ds : List Deferred} {r : Option Nat}
 (hk : Cont P B w0 fn0 R0 ρ ls r K Q) (hrd : RdR ls rd r) (hr : RTm ρ ls s.tm a) (hdf : DfR ls df ds) (hd : a.defers = ds) (hh : HOk ρ B w0 ls s.hp w) (hn : ∀ e ∈ s.neg, evB ρ e = false) (h : (stepOps P cf sm rec f0 fn0 all l0 K s df rd).holds (fun ρ => LeafOk ρ B w0 R0) ρ) : wpRest r P all Q l0 a w := by
 have ih := ih00 ρ hc f0 fn0 R0 B w0
 obtain ⟨dr, ops⟩ := all
 unfold stepOps at h
 cases dr with
 | false =>
  simp only at h
  generalize hq : runQ P cf sm s.hp s.neg ops l0 s.tm = q at h
  obtain ⟨l1, tm1⟩ := q
  have hrs : runS P cf sm ops l0 s = (l1, ⟨tm1, s.hp, s.neg⟩) := by unfold runS; rw [hq]
  rw [hrs] at h
  refine runQ_ok hsm hc hn hq hr hd hh fun a1 w1 hr1 hd1 hh1 => ?_
  simp only at h
  split at h
  ·rename_i e lo n hs
   obtain ⟨h1, h2⟩ := splitI_ok hr1 hs
   obtain ⟨m, hb, hm⟩ := casesI_ok h h1 h2
   obtain ⟨g1, g2⟩ := assumeN_ok (s := ⟨tm1, s.hp, s.neg⟩) hb hn hr1 hh1
   exact ih (.ops (false, ops) l1) K (assumeN (.eq e (.ic m)) ⟨tm1, s.hp, s.neg⟩) df rd ls a1 w1 Q ds r hk hrd g1 hdf hd1 g2 (assumeN_neg hb hn) hm
  ·exact stepOps1_ok ih00 hc hsm (all := (false, ops)) (s := ⟨tm1, s.hp, s.neg⟩) hk hrd hr1 hdf hd1 hh1 hn h
 | true =>
  simp only at h
  split at h
  ·rename_i hB
   exact wpRest_seq hB (ih (.ops (false, ops) l0) K s df rd ls a w Q ds r hk hrd hr hdf hd hh hn h)
  ·split at h
   ·rename_i m q hq
    obtain ⟨p1, p2⟩ := owsF_ok h
    intro k hk' he
    simp only at hk' he ⊢
    have hl := congrArg List.length he
    simp at hl
    have ek : ops.size - l0.length = k := by omega
    rw [ek] at hq
    refine piece_ok hsm hc hn hr hd hh hq p1 fun ls'' a' w' hx hr' hd' hh' => ?_
    have hm : m ≤ ops.size := by
     have := (tryK_ok hq).2
     simp only [chkK, Bool.and_eq_true] at this
     exact Nat.le_of_ble_eq_true this.1.1.1.1.2
    exact ih (.ops (true, ops) (ops.toList.drop m)) K ⟨(finL cf ops q.its q.its 0 (maskT ops m s.tm) s.hp).1, (finL cf ops q.its q.its 0 (maskT ops m s.tm) s.hp).2, s.neg⟩ df rd ls'' a' w' Q ds r (hk.ext hx) (hrd.ext hx) hr' (hdf.ext hx) hd' hh' hn p2 m hm rfl
   ·split at h
    ·exact stepOps1_ok ih00 hc hsm hk hrd hr hdf hd hh hn h
    ·split at h
     ·rename_i c n its f fn code vs hcp
      intro k hk' he
      simp only at hk' he ⊢
      have hl := congrArg List.length he
      simp at hl
      have ek : ops.size - l0.length = k := by omega
      rw [ek] at hcp h
      obtain ⟨hits, hchk, hcall⟩ := cpieceAt_ok hcp
      refine cpiece_in hsm hc hn hr hd hh hits hchk fun L a' w' o inv hlk hlc hrd' ho hlst hsee hd' hh' => ?_
      unfold callAt at hcall
      rw [ho] at hcall
      simp only at hcall
      split at hcall
      ·rename_i Gd hg
       split at hcall
       ·rename_i hT
        have hGd : evB ρ Gd = true := isT_ok hT
        have hwd := guardOf_ok hg hsee hn
        unfold wpOpIn
        simp only [ho]
        rw [if_pos (hwd.trans hGd)]
        unfold callOf at hcall
        split at hcall
        ·rename_i f1 args at_ hop
         split at hcall
         ·rename_i f' first cap vs' hf hvs
          split at hcall
          ·rename_i fn' hfn
           split at hcall
           ·rename_i c' hbody
            cases hcall
            obtain ⟨f1, f2⟩ := hc.fns _ _ hfn
            obtain ⟨fs, cs, he', g1, g2⟩ := opd_ok hf hsee hGd
            have hargs := opds_ok hsee hGd hvs
            have hall : All2 (RV ρ ls) (first.map pvS ++ vs' ++ cap.map pvS) (fs ++ args.toList.map a'.eval ++ cs) := ((all2_pv g1).append hargs).append (all2_pv g2)
            have hl := hall.len
            have e : args.map a'.eval = (args.toList.map a'.eval).toArray := by rw [← Array.toList_map]
            have hrun : (execOp a'.eval o).run P w' = .ok (.enter f (fs ++ args.toList.map a'.eval ++ cs).toArray) w' := by
             simp only [execOp, hop, resolve, he', Deferred.ofValue, Sem.run_bind, Sem.run_pure, Result.andThen_ok, invoke, e]
             rw [run_callFunc f1 (by rw [hbody]; rfl) f2]
             simp
            have hdo : dstOf ops c = o.dst := by unfold dstOf; rw [ho]; rfl
            refine opIn_enter hrun (callsIn_of_wp_marks (R := afterCall _ Q a' o.dst) f1 hbody trivial ?_)
            refine ih (.code code) (.pc f fn s.tm df rd ops k c n its :: K) ⟨initT fn.ntmps (first.map pvS ++ vs' ++ cap.map pvS), s.hp, s.neg⟩ [] none ls _ w' _ [] none ⟨rfl, Q, r, a', ds, L, hk, hrd, hdf, hd', hlst, inv, hlk, hlc, hrd', hchk, by rw [hdo]⟩ rfl (initT_ok hall ?_) trivial rfl hh' hn h
            simp only [List.size_toArray]
           ·cases hcall
          ·cases hcall
         ·cases hcall
        ·cases hcall
       ·cases hcall
      ·cases hcall
     ·split at h
      ·rename_i c n its v hp' ow hep
       obtain ⟨p1, p2⟩ := owF_ok h
       intro k hk' he
       simp only at hk' he ⊢
       have hl := congrArg List.length he
       simp at hl
       have ek : ops.size - l0.length = k := by omega
       rw [ek] at hep
       obtain ⟨hits, hchk, heff, hits'⟩ := epieceAt_ok hep
       have hnle : n ≤ ops.size := (chkC_ok hchk).2.2.1
       refine cpiece_in hsm hc hn hr hd hh hits hchk fun L a' w' o inv hlk hlc hrd' ho hlst hsee hd' hh' => ?_
       unfold effAt at heff
       rw [ho] at heff
       simp only at heff
       split at heff
       ·rename_i Gd hg
        split at heff
        ·rename_i hT
         have hGd : evB ρ Gd = true := isT_ok hT
         have hwd := guardOf_ok hg hsee hn
         have hdo : dstOf ops c = o.dst := by unfold dstOf; rw [ho]; rfl
         unfold wpOpIn
         simp only [ho]
         rw [if_pos (hwd.trans hGd)]
         refine upR.wp (upR.mono (fun z w'' hz => ?_) (effO_ok heff hc (p1 rfl) hsee hGd hh'))
         obtain ⟨ls', e1, e2, e3⟩ := hz
         rw [← hdo]
         exact cpiece_back hsm hc hn hd' e2 hits' hchk inv hlk hlc hrd' (hlst.ext e1) (RT_true e3) fun a'' w3 hr'' hd'' hh'' =>
          ih (.ops (true, ops) (ops.toList.drop n)) K ⟨lstT ops (its.set c (.val ⟨.bc true, v⟩)) (headL ops.size n) n s.tm, hp', s.neg⟩ df rd ls' a'' w3 Q ds r (hk.ext e1) (hrd.ext e1) hr'' (hdf.ext e1) hd'' hh'' hn p2 n hnle rfl
        ·cases heff
       ·cases heff
      split at h
      ·rename_i G _
       obtain ⟨h1, h2⟩ := h
       cases hGd : evB ρ G
       ·have hne : evB ρ (eNot G) = true := by rw [evB_eNot, hGd]; rfl
        obtain ⟨g1, g2⟩ := assumeN_ok hne hn hr hh
        exact ih (.ops (true, ops) l0) K (assumeN (eNot G) s) df rd ls a w Q ds r hk hrd g1 hdf hd g2 (assumeN_neg hne hn) (h2 ((evP_iff ρ _).2 hne))
       ·obtain ⟨g1, g2⟩ := assumeN_ok hGd hn hr hh
        exact ih (.ops (true, ops) l0) K (assumeN G s) df rd ls a w Q ds r hk hrd g1 hdf hd g2 (assumeN_neg hGd hn) (h1 ((evP_iff ρ _).2 hGd))
      ·split at h
       ·rename_i e lo n hs
        obtain ⟨h1, h2⟩ := splitD_ok hr hs
        obtain ⟨m, hb, hm⟩ := casesI_ok h h1 h2
        obtain ⟨g1, g2⟩ := assumeN_ok hb hn hr hh
        exact ih (.ops (true, ops) l0) K (assumeN (.eq e (.ic m)) s) df rd ls a w Q ds r hk hrd g1 hdf hd g2 (assumeN_neg hb hn) hm
       ·split at h
        ·rename_i n its hp' ows hmp
         obtain ⟨p1, p2⟩ := owsF_ok h
         intro k hk' he
         simp only at hk' he ⊢
         have hl := congrArg List.length he
         simp at hl
         have ek : ops.size - l0.length = k := by omega
         rw [ek] at hmp
         obtain ⟨c, ps, hchk, hps, hrun⟩ := mpieceAt_ok hmp
         have hnle : n ≤ ops.size := (chkC_ok hchk).2.2.1
         exact mpiece_ok hsm hc hn hr hd hh hchk hps hrun p1 fun ls' a'' w3 e1 hr'' hd'' hh'' =>
          ih (.ops (true, ops) (ops.toList.drop n)) K ⟨lstT ops its (headL ops.size n) n s.tm, hp', s.neg⟩ df rd ls' a'' w3 Q ds r (hk.ext e1) (hrd.ext e1) hr'' (hdf.ext e1) hd'' hh'' hn p2 n hnle rfl
        ·split at h
         ·rename_i n ps hpl
          intro k hk' he
          simp only at hk' he ⊢
          have hl := congrArg List.length he
          simp at hl
          have ek : ops.size - l0.length = k := by omega
          rw [ek] at hpl h
          obtain ⟨c, hchk, hps⟩ := planAt_ok hpl
          exact chain0_ok ih00 hc hsm hk hrd hr hdf hd hh hn hchk hps h
         ·exact h.elim
theorem backC_ok {rec : Rec} (ih00 : RecOk P cf rec) {ρ : Env} (hc : CfgOk P ρ cf) {sm : Sm} (hsm : SmOk P ρ sm) {f0 : FuncId} {fn0 : Func} {R0 : Ending → World → Prop} {B : Nat} {w0 : World} {f : FuncId} {fn : Func} {tm : Tms} {df' : List Nat} {rd' : Option Nat} {all : Array Oper} {k c n : Nat} {its : List It} {K : List Fr} {s : St} {df : List Nat} {ls : Ls} {a : Act} {w : World} {Q : Exit → Act → World → Prop} {ds : List Deferred} {r : Option Nat}
 (hk : Cont P B w0 fn0 R0 ρ ls r (.pc f fn tm df' rd' all k c n its :: K) Q) (hr : RTm ρ ls s.tm a) (hdf : DfR ls df ds) (hd : a.defers = ds) (hh : HOk ρ B w0 ls s.hp w) (hn : ∀ e ∈ s.neg, evB ρ e = false) (h : (backC P cf sm rec f0 fn0 fn tm df' rd' all k c n its K s df).holds (fun ρ => LeafOk ρ B w0 R0) ρ) : Q .normal a w ∧ Q .ret a w := by
 have ih := ih00 ρ hc f0 fn0 R0 B w0
 obtain ⟨_, Q', r', a', ds', L, k1, k2, k3, k4, k5, k6, k7, k8, k9, k10, rfl⟩ := hk
 unfold backC at h
 split at h
 ·rename_i v hp' hv
  split at h
  ·rename_i its' hits
   split at h
   ·rename_i hsame
    have e := sameIts_ok hsame
    subst e
    refine retV_ok hv hc.globs hr hdf hd hh fun z w' hz hw' => ?_
    refine cpiece_back hsm hc hn k4 hw' hits k10 k6 k7 k8 k9 k5 (RT_true (nz_ok hn hz)) fun a'' w'' hr'' hd'' hh'' => ?_
    have hnle : n ≤ all.size := (chkC_ok k10).2.2.1
    exact ih (.ops (true, all) (all.toList.drop n)) K ⟨lstT all (its.set c (.val ⟨.bc true, nz s.neg v⟩)) (headL all.size n) n tm, hp', s.neg⟩ df' rd' ls a'' w'' Q' ds' r' k1 k2 hr'' k3 hd'' hh'' hn h n hnle rfl
   ·exact h.elim
  ·exact h.elim
 ·exact h.elim
set_option maxHeartbeats 2000000 in
theorem stepNrm_ok {rec : Rec} (ih00 : RecOk P cf rec) {ρ : Env} (hc : CfgOk P ρ cf) {sm : Sm} (hsm : SmOk P ρ sm) {f0 : FuncId} {fn0 : Func} {R0 : Ending → World → Prop} {B : Nat} {w0 : World} {K : List Fr} {s : St} {df : List Nat} {rd : Option Nat} {ls : Ls} {a : Act} {w : World} {Q : Exit → Act → World → Prop} {ds : List Deferred} {r : Option Nat}
 (hk : Cont P B w0 fn0 R0 ρ ls r K Q) (hrd : RdR ls rd r) (hr : RTm ρ ls s.tm a) (hdf : DfR ls df ds) (hd : a.defers = ds) (hh : HOk ρ B w0 ls s.hp w) (hn : ∀ e ∈ s.neg, evB ρ e = false) (h : (stepNrm P cf sm rec f0 fn0 K s df rd).holds (fun ρ => LeafOk ρ B w0 R0) ρ) : Q .normal a w := by
 have ih := ih00 ρ hc f0 fn0 R0 B w0
 have topK : ∀ {Q : Exit → Act → World → Prop}, Cont P B w0 fn0 R0 ρ ls r [] Q →
  (match retV P cf s df fn0 with | some (v, hp) => Fm.leaf v hp | none => .fls).holds (fun ρ => LeafOk ρ B w0 R0) ρ → Q .normal a w ∧ Q .ret a w := by
  intro Q hk h
  obtain ⟨_, hk'⟩ := hk
  subst hk'
  split at h
  ·rename_i v hp' hv
   exact retV_ok hv hc.globs hr hdf hd hh fun z w' hz hw' => h ρ.k ls w' z hw' hz
  ·exact h.elim
 have retK : ∀ {f : FuncId} {K : List Fr} {Q : Exit → Act → World → Prop} {fn : Func} {tm : Tms} {df' : List Nat} {rd' : Option Nat} {all : Bool × Array Oper} {rest : List Oper} {dst : Option Tmp},
  Cont P B w0 fn0 R0 ρ ls r (.act f fn tm df' rd' all rest dst :: K) Q →
  (match retV P cf s df fn with | some (v, hp) => rec f0 fn0 (.ops all rest) K ⟨putT tm dst ⟨.bc true, nz s.neg v⟩, hp, s.neg⟩ df' rd' | none => .fls).holds (fun ρ => LeafOk ρ B w0 R0) ρ → Q .normal a w ∧ Q .ret a w := by
  intro f K Q fn tm df' rd' all rest dst hk h
  obtain ⟨_, Q', r', a', ds', k1, k2, k3, k4, k5, rfl⟩ := hk
  split at h
  ·rename_i v hp' hv
   refine retV_ok hv hc.globs hr hdf hd hh fun z w' hz hw' => ?_
   exact ih (.ops all rest) K ⟨putT tm dst ⟨.bc true, nz s.neg v⟩, hp', s.neg⟩ df' rd' ls (a'.put dst z) w' Q' ds' r' k1 k2 (RTm.put k5 dst (RT_true (nz_ok hn hz))) k3 (act_defers k4 dst z) hw' hn h
  ·exact h.elim
 have rngK : ∀ {f : FuncId} {K : List Fr} {Q : Exit → Act → World → Prop} {fn : Func} {l : Nat} {ps : Array Tmp} {asg body : Code} {tm : Tms} {df' : List Nat} {rd' : Option Nat},
  Cont P B w0 fn0 R0 ρ ls r (.rng f fn l ps asg body tm df' rd' :: K) Q →
  (match retV P cf s df fn with
    | some (_, hp) => (match lrecOf hp l with
     | some (b, ty, st, pd) => if isBusy st then Fm.fls else rec f0 fn0 (match pd with | none => .nrm | some none => .code .ret | some (some id) => .code (.exit id)) K ⟨tm, hp.set l ⟨b, ty, .dead⟩, s.neg⟩ df' rd'
     | none => .fls)
    | none => .fls).holds (fun ρ => LeafOk ρ B w0 R0) ρ → Q .normal a w ∧ Q .ret a w := by
  intro f K Q fn l ps asg body tm df' rd' hk h
  obtain ⟨_, Q', r', a', ds', L, rec, k1, k2, k3, k4, k5, k6, k7, k8, k9, k10, k11, rfl⟩ := hk
  split at h
  ·rename_i v hp' hv
   split at h
   ·rename_i b ty st pd hl
    split at h
    ·exact h.elim
    ·rename_i hbusy
     refine retV_ok hv hc.globs hr hdf hd hh fun z w' hz hw' => ?_
     obtain ⟨L', rec', g1, g2, g3, _, g5⟩ := hw'.lrec (lrecOf_ok hl)
     rw [k6] at g1
     cases g1
     have hst : ({ rec' with state := st, pending := pdC pd } : Loop).state ≠ .busy := isBusy_ok hbusy
     refine ⟨_, _, run_endLoop g3 hst, ?_⟩
     exact wp_of_pd (F := Fence.wide) (ih _ K ⟨tm, hp'.set l ⟨b, ty, .dead⟩, s.neg⟩ df' rd' ls a' _ Q' ds' r' k1 k2 k5 k3 k4 (g5 _) hn h)
   ·exact h.elim
  ·exact h.elim
 have rndK : ∀ {K : List Fr} {Q : Exit → Act → World → Prop} {l : Nat} {tm : Tms} {df' : List Nat} {rd' : Option Nat} {all : Bool × Array Oper} {rest : List Oper} {dst : Option Tmp} {b : Bool} {ty : TypeId} {st : LoopState} {pd : Option (Option Nat)} {st' : LoopState} {pd' : Option (Option Nat)} {z : Bool},
  Cont P B w0 fn0 R0 ρ ls r (.rnd l tm df' rd' all rest dst :: K) Q → s.hp[l]? = some ⟨b, ty, .lrec st pd⟩ →
  (rec f0 fn0 (.ops all rest) K ⟨putT tm dst ⟨.bc true, .c (.bool (.bc z))⟩, s.hp.set l ⟨b, ty, .lrec st' pd'⟩, s.neg⟩ df' rd').holds (fun ρ => LeafOk ρ B w0 R0) ρ →
  z = (pdC pd').isNone → st' = (if (pdC pd').isNone then .ready else .done) →
  ∃ L Q' r' a', Q = roundPost P L (actR P r' all rest dst a' Q') ∧ ∃ v w', (Instr.endRound L (pdC pd')).run P w = .ok v w' ∧ actR P r' all rest dst a' Q' (.returned v) w' := by
  intro K Q l tm df' rd' all rest dst b ty st pd st' pd' z hk hl h hz hst
  obtain ⟨Q', r', a', ds', L, k1, k2, k3, k4, k5, k6, rfl⟩ := hk
  obtain ⟨L', rec', g1, g2, g3, g4, _⟩ := hh.lrec hl
  rw [k6] at g1
  cases g1
  refine ⟨L, Q', r', a', rfl, _, _, run_endRound (pdC pd') g3, ?_⟩
  have hw' := g4 st' pd'
  rw [hst] at hw'
  have hw'' : HOk ρ B w0 ls (s.hp.set l ⟨b, ty, .lrec st' pd'⟩) (w.putObj L (.loop { { rec' with state := st, pending := pdC pd } with state := if (pdC pd').isNone then .ready else .done, pending := pdC pd' })) := by rw [hst]; exact hw'
  exact ih (.ops all rest) K ⟨putT tm dst ⟨.bc true, .c (.bool (.bc z))⟩, s.hp.set l ⟨b, ty, .lrec st' pd'⟩, s.neg⟩ df' rd' ls (a'.put dst (.bool (pdC pd').isNone)) _ Q' ds' r' k1 k2 (RTm.put k5 dst (RT_true (by rw [hz]; exact rfl))) k3 (act_defers k4 dst _) hw'' hn h
 cases K with
 | nil => simp only [stepNrm] at h; exact (topK hk h).1
 | cons fr K =>
  cases fr with
  | seq c =>
   simp only [stepNrm] at h
   obtain ⟨Q', k1, rfl⟩ := hk
   exact ih (.code c) K s df rd ls a w Q' ds r k1 hrd hr hdf hd hh hn h
  | blk id =>
   simp only [stepNrm] at h
   obtain ⟨Q', k1, rfl⟩ := hk
   exact ih .nrm K s df rd ls a w Q' ds r k1 hrd hr hdf hd hh hn h
  | scp =>
   simp only [stepNrm] at h
   obtain ⟨Q', k1, rfl⟩ := hk
   exact ih .nrm K s df rd ls a w Q' ds r k1 hrd hr hdf hd hh hn h
  | lp c m =>
   obtain ⟨Q', k1, rfl⟩ := hk
   cases m with
   | zero => simp only [stepNrm] at h; exact h.elim
   | succ m =>
    simp only [stepNrm] at h
    exact ih (.code c) (.lp c m :: K) s df rd ls a w _ ds r ⟨Q', k1, rfl⟩ hrd hr hdf hd hh hn h
  | inv L hd0 mv A df0 =>
   simp only [stepNrm] at h
   obtain ⟨Q', ρ0, ls0, ds0, k1, k2, k3, k4, k5, k6, k7, k8, k9, rfl⟩ := hk
   split at h
   ·rename_i hdd
    have hdd := sameN_ok hdd
    subst hdd
    have := hdf.uniq k4
    subst this
    split at h
    ·rename_i F hF
     exact backF_ok hF h k2 k6 k7 k8 k9 hr hd hh
    ·exact h.elim
   ·exact h.elim
  | act f fn tm df' rd' all rest dst => simp only [stepNrm] at h; exact (retK hk h).1
  | pc f fn tm df' rd' all k c n its => simp only [stepNrm] at h; exact (backC_ok ih00 hc hsm hk hr hdf hd hh hn h).1
  | pm f fn tm df' rd' all k n c ps its done => simp only [stepNrm] at h; exact (backM_ok ih00 hc hsm hk hr hdf hd hh hn h).1
  | rng f fn l ps asg body tm df' rd' => simp only [stepNrm] at h; exact (rngK hk h).1
  | asg l body =>
   simp only [stepNrm] at h
   obtain ⟨Q', L, k1, k2, rfl⟩ := hk
   split at h
   ·rename_i b ty st pd hl
    split at h
    ·rename_i hrdy
     obtain ⟨rfl, rfl⟩ := isReady_ok hrdy
     obtain ⟨L', rec, g1, g2, g3, g4, _⟩ := hh.lrec (lrecOf_ok hl)
     rw [k2] at g1
     cases g1
     refine ⟨_, run_beginRound g3 rfl, ?_⟩
     exact ih (.code body) K ⟨s.tm, s.hp.set l ⟨b, ty, .lrec .busy none⟩, s.neg⟩ df rd ls a _ Q' ds r k1 hrd hr hdf hd (g4 .busy none) hn h
    ·exact h.elim
   ·exact h.elim
  | rnd l tm df' rd' all rest dst =>
   simp only [stepNrm] at h
   split at h
   ·rename_i b ty st pd hl
    obtain ⟨L, Q', r', a', rfl, v, w', e1, e2⟩ := rndK (pd' := none) hk (lrecOf_ok hl) h rfl rfl
    exact ⟨v, w', e1, e2⟩
   ·exact h.elim
set_option maxHeartbeats 2000000 in
theorem stepEx_ok {rec : Rec} (ih00 : RecOk P cf rec) {ρ : Env} (hc : CfgOk P ρ cf) {id : Nat} {f0 : FuncId} {fn0 : Func} {R0 : Ending → World → Prop} {B : Nat} {w0 : World} {K : List Fr} {s : St} {df : List Nat} {rd : Option Nat} {ls : Ls} {a : Act} {w : World} {Q : Exit → Act → World → Prop} {ds : List Deferred} {r : Option Nat}
 (hk : Cont P B w0 fn0 R0 ρ ls r K Q) (hrd : RdR ls rd r) (hr : RTm ρ ls s.tm a) (hdf : DfR ls df ds) (hd : a.defers = ds) (hh : HOk ρ B w0 ls s.hp w) (hn : ∀ e ∈ s.neg, evB ρ e = false) (h : (stepEx P cf rec f0 fn0 id K s df rd).holds (fun ρ => LeafOk ρ B w0 R0) ρ) : Q (.exit id) a w := by
 have ih := ih00 ρ hc f0 fn0 R0 B w0
 have rndK : ∀ {K : List Fr} {Q : Exit → Act → World → Prop} {l : Nat} {tm : Tms} {df' : List Nat} {rd' : Option Nat} {all : Bool × Array Oper} {rest : List Oper} {dst : Option Tmp} {b : Bool} {ty : TypeId} {st : LoopState} {pd : Option (Option Nat)} {st' : LoopState} {pd' : Option (Option Nat)} {z : Bool},
  Cont P B w0 fn0 R0 ρ ls r (.rnd l tm df' rd' all rest dst :: K) Q → s.hp[l]? = some ⟨b, ty, .lrec st pd⟩ →
  (rec f0 fn0 (.ops all rest) K ⟨putT tm dst ⟨.bc true, .c (.bool (.bc z))⟩, s.hp.set l ⟨b, ty, .lrec st' pd'⟩, s.neg⟩ df' rd').holds (fun ρ => LeafOk ρ B w0 R0) ρ →
  z = (pdC pd').isNone → st' = (if (pdC pd').isNone then .ready else .done) →
  ∃ L Q' r' a', Q = roundPost P L (actR P r' all rest dst a' Q') ∧ ∃ v w', (Instr.endRound L (pdC pd')).run P w = .ok v w' ∧ actR P r' all rest dst a' Q' (.returned v) w' := by
  intro K Q l tm df' rd' all rest dst b ty st pd st' pd' z hk hl h hz hst
  obtain ⟨Q', r', a', ds', L, k1, k2, k3, k4, k5, k6, rfl⟩ := hk
  obtain ⟨L', rec', g1, g2, g3, g4, _⟩ := hh.lrec hl
  rw [k6] at g1
  cases g1
  refine ⟨L, Q', r', a', rfl, _, _, run_endRound (pdC pd') g3, ?_⟩
  have hw' := g4 st' pd'
  rw [hst] at hw'
  have hw'' : HOk ρ B w0 ls (s.hp.set l ⟨b, ty, .lrec st' pd'⟩) (w.putObj L (.loop { { rec' with state := st, pending := pdC pd } with state := if (pdC pd').isNone then .ready else .done, pending := pdC pd' })) := by rw [hst]; exact hw'
  exact ih (.ops all rest) K ⟨putT tm dst ⟨.bc true, .c (.bool (.bc z))⟩, s.hp.set l ⟨b, ty, .lrec st' pd'⟩, s.neg⟩ df' rd' ls (a'.put dst (.bool (pdC pd').isNone)) _ Q' ds' r' k1 k2 (RTm.put k5 dst (RT_true (by rw [hz]; exact rfl))) k3 (act_defers k4 dst _) hw'' hn h
 cases K with
 | nil => simp only [stepEx] at h; exact h.elim
 | cons fr K =>
  cases fr with
  | seq c =>
   simp only [stepEx] at h
   obtain ⟨Q', k1, rfl⟩ := hk
   exact ih (.ex id) K s df rd ls a w Q' ds r k1 hrd hr hdf hd hh hn h
  | blk i =>
   simp only [stepEx] at h
   obtain ⟨Q', k1, rfl⟩ := hk
   show (if id = i then Q' .normal a w else Q' (.exit id) a w)
   split at h
   ·rename_i hi
    rw [if_pos hi]
    exact ih .nrm K s df rd ls a w Q' ds r k1 hrd hr hdf hd hh hn h
   ·rename_i hi
    rw [if_neg hi]
    exact ih (.ex id) K s df rd ls a w Q' ds r k1 hrd hr hdf hd hh hn h
  | scp =>
   simp only [stepEx] at h
   obtain ⟨Q', k1, rfl⟩ := hk
   exact ih (.ex id) K s df rd ls a w Q' ds r k1 hrd hr hdf hd hh hn h
  | lp c m =>
   simp only [stepEx] at h
   obtain ⟨Q', k1, rfl⟩ := hk
   exact ih (.ex id) K s df rd ls a w Q' ds r k1 hrd hr hdf hd hh hn h
  | inv L hd0 mv A df0 =>
   simp only [stepEx] at h
   obtain ⟨Q', ρ0, ls0, ds0, k1, k2, k3, k4, k5, k6, k7, k8, k9, rfl⟩ := hk
   exact ih (.ex id) K s df rd ls a w Q' ds r k1 hrd hr hdf hd hh hn h
  | pc f fn tm df' rd' all k c n its => simp only [stepEx] at h; exact h.elim
  | pm f fn tm df' rd' all k n c ps its done => simp only [stepEx] at h; exact h.elim
  | act f fn tm df' rd' all rest dst => simp only [stepEx] at h; exact h.elim
  | rng f fn l ps asg body tm df' rd' => simp only [stepEx] at h; exact h.elim
  | asg l body => simp only [stepEx] at h; exact h.elim
  | rnd l tm df' rd' all rest dst =>
   simp only [stepEx] at h
   split at h
   ·rename_i b ty st pd hl
    obtain ⟨L, Q', r', a', rfl, v, w', e1, e2⟩ := rndK (pd' := some (some id)) hk (lrecOf_ok hl) h rfl rfl
    exact ⟨v, w', e1, e2⟩
   ·exact h.elim
set_option maxHeartbeats 2000000 in
theorem stepRet_ok {rec : Rec} (ih00 : RecOk P cf rec) {ρ : Env} (hc : CfgOk P ρ cf) {sm : Sm} (hsm : SmOk P ρ sm) {f0 : FuncId} {fn0 : Func} {R0 : Ending → World → Prop} {B : Nat} {w0 : World} {K : List Fr} {s : St} {df : List Nat} {rd : Option Nat} {ls : Ls} {a : Act} {w : World} {Q : Exit → Act → World → Prop} {ds : List Deferred} {r : Option Nat}
 (hk : Cont P B w0 fn0 R0 ρ ls r K Q) (hrd : RdR ls rd r) (hr : RTm ρ ls s.tm a) (hdf : DfR ls df ds) (hd : a.defers = ds) (hh : HOk ρ B w0 ls s.hp w) (hn : ∀ e ∈ s.neg, evB ρ e = false) (h : (stepRet P cf sm rec f0 fn0 K s df rd).holds (fun ρ => LeafOk ρ B w0 R0) ρ) : Q .ret a w := by
 have ih := ih00 ρ hc f0 fn0 R0 B w0
 have topK : ∀ {Q : Exit → Act → World → Prop}, Cont P B w0 fn0 R0 ρ ls r [] Q →
  (match retV P cf s df fn0 with | some (v, hp) => Fm.leaf v hp | none => .fls).holds (fun ρ => LeafOk ρ B w0 R0) ρ → Q .normal a w ∧ Q .ret a w := by
  intro Q hk h
  obtain ⟨_, hk'⟩ := hk
  subst hk'
  split at h
  ·rename_i v hp' hv
   exact retV_ok hv hc.globs hr hdf hd hh fun z w' hz hw' => h ρ.k ls w' z hw' hz
  ·exact h.elim
 have retK : ∀ {f : FuncId} {K : List Fr} {Q : Exit → Act → World → Prop} {fn : Func} {tm : Tms} {df' : List Nat} {rd' : Option Nat} {all : Bool × Array Oper} {rest : List Oper} {dst : Option Tmp},
  Cont P B w0 fn0 R0 ρ ls r (.act f fn tm df' rd' all rest dst :: K) Q →
  (match retV P cf s df fn with | some (v, hp) => rec f0 fn0 (.ops all rest) K ⟨putT tm dst ⟨.bc true, nz s.neg v⟩, hp, s.neg⟩ df' rd' | none => .fls).holds (fun ρ => LeafOk ρ B w0 R0) ρ → Q .normal a w ∧ Q .ret a w := by
  intro f K Q fn tm df' rd' all rest dst hk h
  obtain ⟨_, Q', r', a', ds', k1, k2, k3, k4, k5, rfl⟩ := hk
  split at h
  ·rename_i v hp' hv
   refine retV_ok hv hc.globs hr hdf hd hh fun z w' hz hw' => ?_
   exact ih (.ops all rest) K ⟨putT tm dst ⟨.bc true, nz s.neg v⟩, hp', s.neg⟩ df' rd' ls (a'.put dst z) w' Q' ds' r' k1 k2 (RTm.put k5 dst (RT_true (nz_ok hn hz))) k3 (act_defers k4 dst z) hw' hn h
  ·exact h.elim
 have rngK : ∀ {f : FuncId} {K : List Fr} {Q : Exit → Act → World → Prop} {fn : Func} {l : Nat} {ps : Array Tmp} {asg body : Code} {tm : Tms} {df' : List Nat} {rd' : Option Nat},
  Cont P B w0 fn0 R0 ρ ls r (.rng f fn l ps asg body tm df' rd' :: K) Q →
  (match retV P cf s df fn with
    | some (_, hp) => (match lrecOf hp l with
     | some (b, ty, st, pd) => if isBusy st then Fm.fls else rec f0 fn0 (match pd with | none => .nrm | some none => .code .ret | some (some id) => .code (.exit id)) K ⟨tm, hp.set l ⟨b, ty, .dead⟩, s.neg⟩ df' rd'
     | none => .fls)
    | none => .fls).holds (fun ρ => LeafOk ρ B w0 R0) ρ → Q .normal a w ∧ Q .ret a w := by
  intro f K Q fn l ps asg body tm df' rd' hk h
  obtain ⟨_, Q', r', a', ds', L, rec, k1, k2, k3, k4, k5, k6, k7, k8, k9, k10, k11, rfl⟩ := hk
  split at h
  ·rename_i v hp' hv
   split at h
   ·rename_i b ty st pd hl
    split at h
    ·exact h.elim
    ·rename_i hbusy
     refine retV_ok hv hc.globs hr hdf hd hh fun z w' hz hw' => ?_
     obtain ⟨L', rec', g1, g2, g3, _, g5⟩ := hw'.lrec (lrecOf_ok hl)
     rw [k6] at g1
     cases g1
     have hst : ({ rec' with state := st, pending := pdC pd } : Loop).state ≠ .busy := isBusy_ok hbusy
     refine ⟨_, _, run_endLoop g3 hst, ?_⟩
     exact wp_of_pd (F := Fence.wide) (ih _ K ⟨tm, hp'.set l ⟨b, ty, .dead⟩, s.neg⟩ df' rd' ls a' _ Q' ds' r' k1 k2 k5 k3 k4 (g5 _) hn h)
   ·exact h.elim
  ·exact h.elim
 have rndK : ∀ {K : List Fr} {Q : Exit → Act → World → Prop} {l : Nat} {tm : Tms} {df' : List Nat} {rd' : Option Nat} {all : Bool × Array Oper} {rest : List Oper} {dst : Option Tmp} {b : Bool} {ty : TypeId} {st : LoopState} {pd : Option (Option Nat)} {st' : LoopState} {pd' : Option (Option Nat)} {z : Bool},
  Cont P B w0 fn0 R0 ρ ls r (.rnd l tm df' rd' all rest dst :: K) Q → s.hp[l]? = some ⟨b, ty, .lrec st pd⟩ →
  (rec f0 fn0 (.ops all rest) K ⟨putT tm dst ⟨.bc true, .c (.bool (.bc z))⟩, s.hp.set l ⟨b, ty, .lrec st' pd'⟩, s.neg⟩ df' rd').holds (fun ρ => LeafOk ρ B w0 R0) ρ →
  z = (pdC pd').isNone → st' = (if (pdC pd').isNone then .ready else .done) →
  ∃ L Q' r' a', Q = roundPost P L (actR P r' all rest dst a' Q') ∧ ∃ v w', (Instr.endRound L (pdC pd')).run P w = .ok v w' ∧ actR P r' all rest dst a' Q' (.returned v) w' := by
  intro K Q l tm df' rd' all rest dst b ty st pd st' pd' z hk hl h hz hst
  obtain ⟨Q', r', a', ds', L, k1, k2, k3, k4, k5, k6, rfl⟩ := hk
  obtain ⟨L', rec', g1, g2, g3, g4, _⟩ := hh.lrec hl
  rw [k6] at g1
  cases g1
  refine ⟨L, Q', r', a', rfl, _, _, run_endRound (pdC pd') g3, ?_⟩
  have hw' := g4 st' pd'
  rw [hst] at hw'
  have hw'' : HOk ρ B w0 ls (s.hp.set l ⟨b, ty, .lrec st' pd'⟩) (w.putObj L (.loop { { rec' with state := st, pending := pdC pd } with state := if (pdC pd').isNone then .ready else .done, pending := pdC pd' })) := by rw [hst]; exact hw'
  exact ih (.ops all rest) K ⟨putT tm dst ⟨.bc true, .c (.bool (.bc z))⟩, s.hp.set l ⟨b, ty, .lrec st' pd'⟩, s.neg⟩ df' rd' ls (a'.put dst (.bool (pdC pd').isNone)) _ Q' ds' r' k1 k2 (RTm.put k5 dst (RT_true (by rw [hz]; exact rfl))) k3 (act_defers k4 dst _) hw'' hn h
 cases K with
 | nil => simp only [stepRet] at h; exact (topK hk h).2
 | cons fr K =>
  cases fr with
  | seq c =>
   simp only [stepRet] at h
   obtain ⟨Q', k1, rfl⟩ := hk
   exact ih .ret K s df rd ls a w Q' ds r k1 hrd hr hdf hd hh hn h
  | blk i =>
   simp only [stepRet] at h
   obtain ⟨Q', k1, rfl⟩ := hk
   exact ih .ret K s df rd ls a w Q' ds r k1 hrd hr hdf hd hh hn h
  | scp =>
   simp only [stepRet] at h
   obtain ⟨Q', k1, rfl⟩ := hk
   exact ih .ret K s df rd ls a w Q' ds r k1 hrd hr hdf hd hh hn h
  | lp c m =>
   simp only [stepRet] at h
   obtain ⟨Q', k1, rfl⟩ := hk
   exact ih .ret K s df rd ls a w Q' ds r k1 hrd hr hdf hd hh hn h
  | inv L hd0 mv A df0 =>
   simp only [stepRet] at h
   obtain ⟨Q', ρ0, ls0, ds0, k1, k2, k3, k4, k5, k6, k7, k8, k9, rfl⟩ := hk
   exact ih .ret K s df rd ls a w Q' ds r k1 hrd hr hdf hd hh hn h
  | pc f fn tm df' rd' all k c n its => simp only [stepRet] at h; exact (backC_ok ih00 hc hsm hk hr hdf hd hh hn h).2
  | pm f fn tm df' rd' all k n c ps its done => simp only [stepRet] at h; exact (backM_ok ih00 hc hsm hk hr hdf hd hh hn h).2
  | act f fn tm df' rd' all rest dst => simp only [stepRet] at h; exact (retK hk h).2
  | rng f fn l ps asg body tm df' rd' => simp only [stepRet] at h; exact (rngK hk h).2
  | asg l body => simp only [stepRet] at h; exact h.elim
  | rnd l tm df' rd' all rest dst =>
   simp only [stepRet] at h
   split at h
   ·rename_i b ty st pd hl
    obtain ⟨L, Q', r', a', rfl, v, w', e1, e2⟩ := rndK (pd' := some none) hk (lrecOf_ok hl) h rfl rfl
    exact ⟨v, w', e1, e2⟩
   ·exact h.elim
theorem goStep_ok {rec : Rec} (ih : RecOk P cf rec) : RecOk P cf (goStep P cf rec) := by
 intro ρ hc f0 fn0 R0 B w0 ctl K s df rd ls a w Q ds r hk hrd hr hdf hd hh hn h
 have hsm : SmOk P ρ (smOf rec) := by
  intro f fn c vs obs v us w hf hb hm hob hg hv
  refine callsIn_wide (n := 0).1 (callsIn_of_wp_marks (R := fun e w' => ∃ val, e = .returned val ∧ RV ρ [] v val ∧ Below w.heap.size w w') hf hb trivial ?_)
  refine ih ρ hc 0 fn _ w.heap.size w (.code c) [] (begin0 fn vs) [] none [] _ w _ [] none ⟨rfl, rfl⟩ rfl (initT_ok hv ?_) trivial rfl ?_ (fun e he => by cases he) (mrg_ok hm hob fun w' val hb' hr' => ⟨val, rfl, hr', hb'⟩)
  ·simp only [List.size_toArray]
  ·exact ⟨Below.refl _ _, rfl, rfl, hg, fun i x hi => by simp [begin0] at hi, fun i j x y b hi => by simp [begin0] at hi⟩
 cases ctl with
 | code c => exact stepCode_ok ih hc hsm hk hrd hr hdf hd hh hn h
 | ops all l => exact stepOps_ok ih hc hsm hk hrd hr hdf hd hh hn h
 | nrm => exact stepNrm_ok ih hc hsm hk hrd hr hdf hd hh hn h
 | ex id => exact stepEx_ok ih hc hk hrd hr hdf hd hh hn h
 | ret => exact stepRet_ok ih hc hsm hk hrd hr hdf hd hh hn h
theorem goN_ok : ∀ n, RecOk P cf (goN P cf n)
 | 0 => by rw [goN_zero]; exact fun ρ hc f0 fn0 R0 B w0 ctl K s df rd ls a w Q ds r _ _ _ _ _ _ _ h => h.elim
 | n + 1 => by rw [goN_succ]; exact goStep_ok (goN_ok n)
theorem call_okH (hc : CfgOk P ρ cf) {R0 : Ending → World → Prop} {f : FuncId} {fn : Func} {c : Code} (hf : P.funcs[f]? = some fn) (hb : fn.body = some c) (n : Nat) {vs : List SV} {us : List Value} {w : World} {ls : Ls} {hp : SH} (hh : HOk ρ w.heap.size w ls hp w) (hv : All2 (RV ρ ls) vs us)
 {f0 : FuncId} (h : (go P cf f0 fn n (.code c) [] (begin1 fn vs hp) [] none).holds (fun ρ => LeafOk ρ w.heap.size w R0) ρ) : Calls P f us.toArray w R0 := by
 refine callsIn_wide (n := 0).1 (callsIn_of_wp_marks (R := R0) hf hb trivial ?_)
 refine goN_ok n ρ hc f0 fn R0 w.heap.size w (.code c) [] (begin1 fn vs hp) [] none ls _ w _ [] none ⟨rfl, rfl⟩ rfl (initT_ok hv ?_) trivial rfl hh (fun e he => by cases he) h
 simp only [List.size_toArray]
theorem call_ok (hc : CfgOk P ρ cf) {R0 : Ending → World → Prop} {f : FuncId} {fn : Func} {c : Code} (hf : P.funcs[f]? = some fn) (hb : fn.body = some c) (n : Nat) {vs : List SV} {us : List Value} {w : World} (hg : GlobOk ρ.g w.heap.size w) (hv : All2 (RV ρ []) vs us)
 {f0 : FuncId} (h : (go P cf f0 fn n (.code c) [] (begin0 fn vs) [] none).holds (fun ρ => LeafOk ρ w.heap.size w R0) ρ) : Calls P f us.toArray w R0 :=
 call_okH hc hf hb n (ls := []) (hp := []) ⟨Below.refl _ _, rfl, rfl, hg, fun i x hi => by simp at hi, fun i j x y b hi => by simp at hi⟩ hv h
end
end Vc
end Go.Proofs.YtelbilnnmmbmdaaDoor
