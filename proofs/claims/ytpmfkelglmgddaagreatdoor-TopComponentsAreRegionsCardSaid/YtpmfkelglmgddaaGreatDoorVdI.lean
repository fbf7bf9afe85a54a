/- What the machine's frames stand for. -/
import Derived.Test.YtpmfkelglmgddaaGreatDoorVdM
import Derived.RangeFuncNested
namespace Go.Proofs.YtpmfkelglmgddaaGreatDoor
namespace Vc
open Go Go.RowKit
set_option linter.unusedVariables false
section
variable {F : Fence} {k : Nat} {P : Program} {Q : Exit → Act → World → Prop} {a : Act} {w : World}
theorem xe {c : Code} (I : Nat → Act → World → Prop) {n : Nat} (h₀ : I n a w)
 (round : ∀ n a w, I n a w → c.wpIn F k P (Exit.then (fun a' w' => ∃ n', n' < n ∧ I n' a' w') Q) a w) : (Code.loop c).wpIn F k P Q a w := by
 intro b kk cs hro hb hr
 have key : ∀ j a w, I j a w →
  ∃ e a' w', Q e a' w' ∧ ArrivesIn (Machine.fenced P F) P (lone (b.atR a (.code c :: .inLoop c :: kk)) cs w) b kk cs e a' w' := by
  intro j
  induction j using Nat.strongRecOn with
  | _ j ih =>
   intro a w hI
   obtain ⟨e, a₁, w₁, hq, harr⟩ := round j a w hI b (.inLoop c :: kk) cs hro hb hr
   cases e with
   | normal =>
    obtain ⟨n', hlt, hI₁⟩ := hq
    obtain ⟨e₂, a₂, w₂, hq₂, harr₂⟩ := ih n' hlt a₁ w₁ hI₁
    exact ⟨e₂, a₂, w₂, hq₂, .of_steps (StepsIn.trans harr (.one (fenced_calm hb hr rfl) stepR_inLoop)) harr₂⟩
   | exit id => exact ⟨_, a₁, w₁, hq, .pass (x := .inLoop c) rfl (fun _ _ => .inl (by simp)) harr⟩
   | goto l => exact ⟨_, a₁, w₁, hq, .pass (x := .inLoop c) rfl (fun _ _ => .inl (by simp)) harr⟩
   | ret => exact ⟨_, a₁, w₁, hq, .pass (x := .inLoop c) rfl (fun _ _ => .inl (by simp)) harr⟩
   | panic ch => exact ⟨_, a₁, w₁, hq, .pass (x := .inLoop c) rfl (fun _ _ => .inl (by simp)) harr⟩
   | outgrown => exact ⟨_, a₁, w₁, hq, .pass (x := .inLoop c) rfl (fun _ _ => .inl (by simp)) harr⟩
 obtain ⟨e, a', w', hq, harr⟩ := key _ a w h₀
 exact ⟨e, a', w', hq, .of_steps (.one (fenced_calm hb hr rfl) stepR_loop) harr⟩
theorem xf {b : Frame} {kk : List Item} {cs : List Frame} {c : Code} : step P (lone (b.atR a (.code (.scope c) :: kk)) cs w) = .next (lone (b.atR a (.code c :: .inScope c :: kk)) cs w) :=
 step_lone_go (by simp [stepG, stepG.exec, Frame.atR])
theorem sH {b : Frame} {kk : List Item} {cs : List Frame} {c : Code} : step P (lone (b.atR a (.inScope c :: kk)) cs w) = .next (lone (b.atR a kk) cs w) :=
 step_lone_go (by simp [stepG, stepG.exec, Frame.atR])
theorem kB {c : Code} (h : c.wpIn F k P (Exit.noGoto Q) a w) : (Code.scope c).wpIn F k P Q a w := by
 intro b kk cs hro hb hr
 obtain ⟨e, a₁, w₁, hq, harr⟩ := h b (.inScope c :: kk) cs hro hb hr
 have s0 : StepsIn (Machine.fenced P F) P (lone (b.atR a (.code (.scope c) :: kk)) cs w) (lone (b.atR a (.code c :: .inScope c :: kk)) cs w) := .one (fenced_calm hb hr rfl) xf
 cases e with
 | normal => exact ⟨.normal, a₁, w₁, hq, StepsIn.trans s0 (StepsIn.trans harr (.one (fenced_calm hb hr rfl) sH))⟩
 | exit id => exact ⟨.exit id, a₁, w₁, hq, fun k' hk => StepsIn.trans s0 (harr.1 k' (by simp [exitTo, hk])), fun h1 h2 => let ⟨k₁, g1, g2⟩ := harr.2 h1 (by simp [exitTo, h2]); ⟨k₁, g1, StepsIn.trans s0 g2⟩⟩
 | goto l => exact hq.elim
 | ret => exact ⟨_, a₁, w₁, hq, .of_steps s0 harr⟩
 | panic ch => exact ⟨_, a₁, w₁, hq, .of_steps s0 harr⟩
 | outgrown => exact ⟨_, a₁, w₁, hq, .of_steps s0 harr⟩
end
section
variable {P : Program} {ρ : Env} {B : Nat} {w0 w : World} {ls : Ls} {hp : SH} {tm : aw} {a : Act} {G : E} {cf : a8}
theorem mD {L : Env → SV → SH → Prop} {f : Fm} : ∀ {ps : List (E × Ow)}, (CG ps f).holds L ρ → (∀ x ∈ ps, al ρ x.1 = true → x.2.Ok ρ) ∧ f.holds L ρ
 | [], h => ⟨(fun x hx => by cases hx), h⟩
 | (G, o) :: r, h => by
  obtain ⟨h1, h2⟩ := qY h
  obtain ⟨i1, i2⟩ := mD h2
  refine ⟨fun x hx hG => ?_, i2⟩
  rcases List.mem_cons.1 hx with rfl | hx
  ·exact h1 hG
  ·exact i1 x hx hG
theorem jE (e : E) : al ρ (bp e) = !al ρ e := bV ρ e
theorem tH {e : E} {neg : List E} (he : al ρ e = true) (hn : ∀ x ∈ neg, al ρ x = false) : ∀ f ∈ zn e neg, al ρ f = true := fun f hf => by
 rcases List.mem_append.1 hf with hf | hf
 ·exact iz he hf
 ·exact nB (fun f hf => iz he hf) hn f hf
theorem cu {e : E} {s : St} {ls : Ls} {a : Act} {w : World} (he : al ρ e = true) (hn : ∀ x ∈ s.neg, al ρ x = false) (hr : aX ρ ls s.tm a) (hh : aB ρ B w0 ls s.hp w) : aX ρ ls (bf e s).tm a ∧ aB ρ B w0 ls (bf e s).hp w :=
 ⟨⟨hr.1, fun d t hd ht => by obtain ⟨x, h1, rfl⟩ := Tr.get_map ht; exact Is (tD hr (tH he hn)) (hr.2 d x hd h1)⟩, hh.rf (tD hr (tH he hn))⟩
theorem bX {e : E} {s : St} (he : al ρ e = true) (hn : ∀ x ∈ s.neg, al ρ x = false) : ∀ x ∈ (bf e s).neg, al ρ x = false := fun x hx => by
 rcases List.mem_cons.1 hx with rfl | hx
 ·rw [jE, he]; rfl
 ·rcases List.mem_append.1 hx with hx | hx
  ·obtain ⟨y, hy, rfl⟩ := List.mem_map.1 hx
   rw [jE, nB (fun f hf => iz he hf) hn y hy]; rfl
  ·exact hn x hx
theorem aW {a : Act} {ds : List Deferred} (hd : a.defers = ds) (dst : Option Tmp) (v : Value) : (a.put dst v).defers = ds := by cases dst <;> exact hd
theorem fF {ls : Ls} : ∀ {ps : List PV} {vs : List Value}, ai (RP ls) ps vs → ai (RV ρ ls) (ps.map xg) vs
 | [], [], _ => trivial
 | _ :: _, _ :: _, h => ⟨h.1, fF h.2⟩
theorem tI : ∀ {vs : List SV} {t : Tr} {i d : Nat} {y : Tm}, (vp t i vs).get d = some y → (∃ j v, d = i + j ∧ vs[j]? = some v ∧ y = ⟨.bc true, v⟩) ∨ (t.get d = some y ∧ (d < i ∨ i + vs.length ≤ d))
 | [], t, i, d, y, h => .inr ⟨h, by simp; omega⟩
 | v :: r, t, i, d, y, h => by
  have h' : (vp (t.set i ⟨.bc true, v⟩) (i + 1) r).get d = some y := h
  rcases tI (vs := r) h' with ⟨j, v', h1, h2, h3⟩ | ⟨h1, h2⟩
  ·exact .inl ⟨j + 1, v', by omega, by simpa using h2, h3⟩
  ·rcases Tr.mi h1 with ⟨rfl, rfl⟩ | ⟨hne, h1'⟩
   ·exact .inl ⟨0, v, rfl, rfl, rfl⟩
   ·exact .inr ⟨h1', by simp only [List.length_cons]; omega⟩
theorem fa {ls : Ls} {vs : List SV} {us : List Value} {n : Nat} {a : Act} (h : ai (RV ρ ls) vs us) (ha : a.tmps = us.toArray ++ Array.replicate (n - us.length) undef) : aX ρ ls (iV n vs) a := by
 have hl := h.len
 refine ⟨by rw [ha]; simp [iV, hl], fun d t hd ht => ?_⟩
 rw [ha]
 rcases tI ht with ⟨j, v, h1, h2, rfl⟩ | ⟨h1, h2⟩
 ·obtain ⟨u, hu, hr⟩ := h.get h2
  have hj : j < us.length := (List.getElem?_eq_some_iff.1 hu).1
  have e : (us.toArray ++ Array.replicate (n - us.length) undef).getD d undef = u := by
   rw [Array.getD_eq_getD_getElem?, Array.getElem?_append_left (by simp; omega)]
   rw [show d = j by omega]
   simp [hu]
  rw [e]; exact a6 hr
 ·have hge : us.length ≤ d := by omega
  have e : (us.toArray ++ Array.replicate (n - us.length) undef).getD d undef = undef := by
   rw [Array.getD_eq_getD_getElem?, Array.getElem?_append_right (by simpa using hge), Array.getElem?_replicate]
   split <;> rfl
  rw [e, Tr.wS h1]; exact lB
theorem nF {k : Nat → Option Loop} : aX (ρ.wk k) ls tm a ↔ aX ρ ls tm a := by unfold aX; rw [Jr]
theorem aP.wk (h : aP P ρ cf) (k : Nat → Option Loop) : aP P (ρ.wk k) cf := ⟨h.eq, h.bL, h.F, h.mixed, h.fns, h.pK, h.fn, h.mW, h.pb, h.mX, h.mY⟩
theorem aB.agree {ρ' : Env} {M : Nat} (h : aB ρ B w0 ls hp w) (ha : Agree M ρ ρ') (hv : hp.all (HE.av (fun _ => true) M) = true) (hk : ∀ (i : Nat) (x : HE) st pd, hp[i]? = some x → x.k = .bW st pd → ρ'.k i = ρ.k i) : aB ρ' B w0 ls hp w where
 below := h.below
 base := h.base
 len := h.len
 cS := by rw [ha.g]; exact h.cS
 bA := fun i x hx => by
  have hx' := List.all_eq_true.1 hv x (List.mem_of_getElem? hx)
  have he := h.bA i x hx
  have hki := fun st pd => hk i x st pd hx
  obtain ⟨wr, ty, k⟩ := x
  cases k with
  | bW st pd =>
   obtain ⟨hw, L, r, h1, h2, h3⟩ := he
   exact ⟨hw, L, r, h1, (hki st pd rfl).trans h2, h3⟩
  | mark => exact he
  | iter s q hi =>
   simp only [HE.av, Bool.and_eq_true] at hx'
   obtain ⟨hw, L, str, h1, h2⟩ := he
   refine ⟨hw, L, str, h1, ?_⟩
   unfold aa at h2 ⊢
   rw [aC ha hx'.1, aC ha hx'.2]; exact h2
  | lb R n hi =>
   simp only [HE.av, Bool.and_eq_true] at hx'
   obtain ⟨hw, L, es, clock, h1, h2⟩ := he
   refine ⟨hw, L, es, clock, h1, ?_⟩
   unfold aa aU at h2 ⊢
   rw [aC ha hx'.1, aC ha hx'.2]; exact h2
  | lg l o =>
   simp only [HE.av, Bool.and_eq_true] at hx'
   obtain ⟨hw, L, vs, cs, h1, h0, h2, h3, h4, h5⟩ := he
   refine ⟨hw, L, vs, cs, h1, h0, h2, h3, h4, fun j hj => h5 j fun e he => ?_⟩
   subst he
   have := hj e rfl
   unfold aa at this ⊢
   rw [aC ha hx'.2] at this; exact this
  | mS K Q s hi =>
   obtain ⟨hw, vs, h1, h2, h3, h4⟩ := he
   refine ⟨hw, vs, h1, h2, fun j hj => ?_, h4⟩
   unfold aU at h3 ⊢
   rw [aC ha hx']; exact h3 j hj
  | abs t lo A =>
   simp only [HE.av, Bool.and_eq_true] at hx'
   obtain ⟨v, vs, h1, h2, h3⟩ := he
   refine ⟨v, vs, h1, h2, ?_⟩
   rw [aC ha hx'.2]
   show nn (ρ'.wk ρ.k).o _ _ _ _ _ _ _
   rw [show (ρ'.wk ρ.k).o = ρ.o from ha.o]; exact h3
  | dead => trivial
  | cells cs =>
   obtain ⟨x, vs, h1, h2, h3⟩ := he
   exact ⟨x, vs, h1, EF.move (p := fun _ => true) (m := M) (ρ := ρ) (ρ' := ρ'.wk ρ.k) ⟨⟨ha.x, ha.f, ha.p, ha.g, ha.o⟩, fun _ _ => rfl, fun _ _ => rfl⟩ hx' h2 |> (fun q => by rw [qw] at q; exact q), h3⟩
  | row sh R n hi =>
   simp only [HE.av, Bool.and_eq_true] at hx'
   have eR := aC ha hx'.1
   have en := aC ha hx'.2
   unfold aT aa aU at *
   simp only at he ⊢
   rw [en, eR]; exact he
  | grow sz cs =>
   obtain ⟨hw, h0, A, n, c, vs, h1, h2, h3, h4⟩ := he
   exact ⟨hw, h0, A, n, c, vs, h1, h2, EF.move (p := fun _ => true) (m := M) (ρ := ρ) (ρ' := ρ'.wk ρ.k) ⟨⟨ha.x, ha.f, ha.p, ha.g, ha.o⟩, fun _ _ => rfl, fun _ _ => rfl⟩ hx' h3 |> (fun q => by rw [qw] at q; exact q), h4⟩
 inj := fun i j x y b hx hy lx bi bj => h.inj i j x y b hx hy lx bi ⟨bj.1, bj.2.1, fun hw => by
  have h3 := bj.2.2 hw
  have hx' := List.all_eq_true.1 hv y (List.mem_of_getElem? hy)
  obtain ⟨wr, ty, k⟩ := y
  cases k <;> try trivial
  simp only [HE.av, Bool.and_eq_true] at hx'
  have en := aC ha hx'.2
  unfold aa at h3 ⊢
  simp only at h3 ⊢
  rw [en] at h3; exact h3⟩
theorem aX.agree {ρ' : Env} {M : Nat} (h : aX ρ ls tm a) (ha : Agree M ρ ρ') (hv : tm.av (fun _ => true) M = true) : aX ρ' ls tm a := by
 have := aX.move (p := fun _ => true) (m := M) (ρ := ρ) (ρ' := ρ'.wk ρ.k) (ls' := ls) ⟨⟨ha.x, ha.f, ha.p, ha.g, ha.o⟩, fun _ _ => rfl, fun _ _ => rfl⟩ hv h
 rwa [nF] at this
def NK (ls : Ls) (m : Nat) (d : Deferred) : Prop := ∃ D, ls[m]? = some (.pointer (some ⟨D, 0, none⟩)) ∧ d = { target := .collected D, args := #[] }
def jg (ls : Ls) (df : List Nat) (ds : List Deferred) : Prop := ai (NK ls) df ds
theorem NK.ext {ls ls' : Ls} (h : Ext ls ls') {m : Nat} {d : Deferred} (k : NK ls m d) : NK ls' m d := let ⟨D, h1, h2⟩ := k; ⟨D, h _ _ h1, h2⟩
theorem jg.ext {ls ls' : Ls} (h : Ext ls ls') {df : List Nat} {ds : List Deferred} (k : jg ls df ds) : jg ls' df ds := ai.mono (fun _ _ => NK.ext h) k
theorem jg.move {ls ls' : Ls} {p : Nat → Bool} (h : ∀ l, p l = true → ls'[l]? = ls[l]?) : ∀ {df : List Nat} {ds : List Deferred}, df.all p = true → jg ls df ds → jg ls' df ds
 | [], [], _, _ => trivial
 | m :: df, d :: ds, hp, ⟨⟨D, h1, h2⟩, k⟩ => by
  simp only [List.all_cons, Bool.and_eq_true] at hp
  exact ⟨⟨D, by rw [h _ hp.1]; exact h1, h2⟩, jg.move h hp.2 k⟩
theorem jg.uniq {ls : Ls} : ∀ {df : List Nat} {ds ds' : List Deferred}, jg ls df ds → jg ls df ds' → ds = ds'
 | [], [], [], _, _ => rfl
 | m :: df, d :: ds, d' :: ds', ⟨⟨D, h1, h2⟩, k⟩, ⟨⟨D', h1', h2'⟩, k'⟩ => by
  rw [h1] at h1'
  cases h1'
  rw [h2, h2', jg.uniq k k']
def oc (ls : Ls) (rd : Option Nat) (r : Option Nat) : Prop := match rd with
 | none => r = none
 | some l => ∃ L, ls[l]? = some (.pointer (some ⟨L, 0, none⟩)) ∧ r = some L
theorem oc.ext {ls ls' : Ls} (h : Ext ls ls') {rd r : Option Nat} (k : oc ls rd r) : oc ls' rd r := by
 cases rd with
 | none => exact k
 | some l => obtain ⟨L, h1, h2⟩ := k; exact ⟨L, h _ _ h1, h2⟩
theorem oc.move {ls ls' : Ls} {p : Nat → Bool} (h : ∀ l, p l = true → ls'[l]? = ls[l]?) {rd r : Option Nat} (hp : Jy p rd = true) (k : oc ls rd r) : oc ls' rd r := by
 cases rd with
 | none => exact k
 | some l => obtain ⟨L, h1, h2⟩ := k; exact ⟨L, by rw [h _ hp]; exact h1, h2⟩
def sI (P : Program) (r : Option Nat) (all : Bool × Array Oper) (rest : List Oper) (dst : Option Tmp) (a : Act) (Q : Exit → Act → World → Prop) : Ending → World → Prop :=
 dJ (fun a' w' => dh r P all Q rest a' w') Q a dst
def jF (L : ba) (A : List E) (ρ : Env) : Nat := (ρ.f L.yV (ev ρ (rl L A)).l).i.toNat
def Iy (B : Nat) (w0 : World) (L : ba) (h : St) (mv : List (Nat × Nat)) (A : List E) (ds : List Deferred) (ρ0 : Env) (ls0 : Ls) (n : Nat) (a : Act) (w : World) : Prop :=
 ∃ ys ls', ys.length = L.k ∧ bR (cB h.hp.length mv) L.m ρ0 (ρ0.cV L.m ys) ls0 ls' ∧ aX (ρ0.cV L.m ys) ls' h.tm a ∧ a.defers = ds ∧ aB (ρ0.cV L.m ys) B w0 ls' h.hp w ∧
  ρ0.p L.pre (ev (ρ0.cV L.m ys) (rl L A)).l ∧ n = jF L A (ρ0.cV L.m ys)
structure L3 (all : Array Oper) (tm : aw) (k n c : Nat) (ps : List Nat) (ah : List It) (dn : List Nat) (L : Array Bool) : Prop where
 Rh : fY all tm k c n = true
 val : ∀ it ∈ ah, it.isVal = true
 len : ah.length = n
 inv : HeadInv .any all n L
 lo : ∀ i, i < k → L.getD i true = true
 dn : ∀ i ∈ dn, L.getD i true = true
 pd : ∀ i ∈ c :: ps, L.getD i true = false
 RR : c ∈ Region.ready .any all L
 oP : ∀ x ∈ ps, k ≤ x ∧ x < n
 not : c ∉ ps
def aF (P : Program) (B : Nat) (w0 : World) (fn0 : Func) (R0 : Ending → World → Prop) : Env → Ls → Option Nat → List Fr → (Exit → Act → World → Prop) → Prop
 | _, _, r, [], Q => r = none ∧ Q = bodyPostM Fence.wide 0 P fn0 R0
 | ρ, ls, r, .seq c :: K, Q => ∃ Q', aF P B w0 fn0 R0 ρ ls r K Q' ∧ Q = Exit.then (c.wpIn (dD r) 0 P Q') Q'
 | ρ, ls, r, .ji id :: K, Q => ∃ Q', aF P B w0 fn0 R0 ρ ls r K Q' ∧ Q = Exit.inBlock id Q'
 | ρ, ls, r, .lp c n :: K, Q => ∃ Q', aF P B w0 fn0 R0 ρ ls r K Q' ∧ Q = Exit.then (Code.roundsIn (dD r) 0 P c Q' n) Q'
 | ρ, ls, r, .xX :: K, Q => ∃ Q', aF P B w0 fn0 R0 ρ ls r K Q' ∧ Q = Exit.noGoto Q'
 | ρ, ls, r, .inv L h mv A df0 :: K, Q => ∃ Q' ρ0 ls0 ds, aF P B w0 fn0 R0 ρ ls r K Q' ∧ bR (cB h.hp.length mv) L.m ρ0 ρ ls0 ls ∧ h.hp.length ≤ ls.length ∧ jg ls df0 ds ∧ df0.all (cB h.hp.length mv) = true ∧ mv.all (ec h.hp) = true ∧
  h.tm.av (fun _ => true) (L.m + L.k) = true ∧ h.hp.all (HE.av (fun _ => true) (L.m + L.k)) = true ∧ A.all (E.eB L.m) = true ∧
  Q = Exit.then (fun a' w' => ∃ n', n' < jF L A ρ ∧ Iy B w0 L h mv A ds ρ0 ls0 n' a' w') Q'
 | ρ, ls, r, .act _ fn tm df rd all rest dst :: K, Q => r = none ∧ ∃ Q' r' a' ds, aF P B w0 fn0 R0 ρ ls r' K Q' ∧ oc ls rd r' ∧ jg ls df ds ∧ a'.defers = ds ∧ aX ρ ls tm a' ∧ Q = bodyPostM Fence.wide 0 P fn (sI P r' all rest dst a' Q')
 | ρ, ls, r, .pc _ fn tm df rd all k c n ah :: K, Q => r = none ∧ ∃ Q' r' a' ds L, aF P B w0 fn0 R0 ρ ls r' K Q' ∧ oc ls rd r' ∧ jg ls df ds ∧ a'.defers = ds ∧ lC ρ ls all ah L n tm a' ∧ HeadInv .any all n L ∧ (∀ i, i < k → L.getD i true = true) ∧ L.getD c true = false ∧ c ∈ Region.ready .any all L ∧ fY all tm k c n = true ∧
  Q = bodyPostM Fence.wide 0 P fn (dJ (wpAnyIn (dD r') 0 P .any all Q' (kK (L.setIfInBounds c true) n + (all.size - n)) (L.setIfInBounds c true)) Q' a' (aq all c))
 | ρ, ls, r, .pm _ fn tm df rd all k n c ps ah done :: K, Q => r = none ∧ ∃ Q' r' a' ds L, aF P B w0 fn0 R0 ρ ls r' K Q' ∧ oc ls rd r' ∧ jg ls df ds ∧ a'.defers = ds ∧ lC ρ ls all ah L n tm a' ∧ L3 all tm k n c ps ah (done.map fun x => x.1) L ∧
  Q = bodyPostM Fence.wide 0 P fn (dJ (wpAnyIn (dD r') 0 P .any all Q' (kK (L.setIfInBounds c true) n + (all.size - n)) (L.setIfInBounds c true)) Q' a' (aq all c))
 | ρ, ls, r, .oP _ fn l ps fE body tm df rd :: K, Q => r = none ∧ ∃ Q' r' a' ds L rec, aF P B w0 fn0 R0 ρ ls r' K Q' ∧ oc ls rd r' ∧ jg ls df ds ∧ a'.defers = ds ∧ aX ρ ls tm a' ∧ ls[l]? = some (.pointer (some ⟨L, 0, none⟩)) ∧ ρ.k l = some rec ∧
  rec.params = ps ∧ rec.assign = fE ∧ rec.body = body ∧ rec.tmps = a'.tmps ∧ Q = bodyPostM Fence.wide 0 P fn (rangePost (dD r') 0 P L Q' a')
 | ρ, ls, r, .fE l body :: K, Q => ∃ Q' L, aF P B w0 fn0 R0 ρ ls r K Q' ∧ ls[l]? = some (.pointer (some ⟨L, 0, none⟩)) ∧
  Q = Exit.then (fun a₁ w₁ => ∃ w₂, (Instr.beginRound L).run P w₁ = .ok () w₂ ∧ body.wpIn (dD r) 0 P Q' a₁ w₂) (fun _ _ _ => False)
 | ρ, ls, r, .sJ l tm df rd all rest dst :: K, Q => ∃ Q' r' a' ds L, aF P B w0 fn0 R0 ρ ls r' K Q' ∧ oc ls rd r' ∧ jg ls df ds ∧ a'.defers = ds ∧ aX ρ ls tm a' ∧ ls[l]? = some (.pointer (some ⟨L, 0, none⟩)) ∧
  Q = roundPost P L (sI P r' all rest dst a' Q')
def Jz (P : Program) (r : Option Nat) (Q : Exit → Act → World → Prop) (a : Act) (w : World) : On → Prop
 | .code c => c.wpIn (dD r) 0 P Q a w
 | .ops all rest => dh r P all Q rest a w
 | .rm => Q .normal a w
 | .ex id => Q (.exit id) a w
 | .ret => Q .ret a w
variable {fn0 : Func} {R0 : Ending → World → Prop}
theorem L4 {ls ls' : Ls} (h : Ext ls ls') : ls.length ≤ ls'.length := by
 rcases Nat.lt_or_ge ls'.length ls.length with hl | hl
 ·have h1 : ls[ls'.length]? = some ls[ls'.length] := List.getElem?_eq_getElem hl
  have := h _ _ h1
  simp at this
 ·exact hl
theorem bR.ext {p : Nat → Bool} {m : Nat} {ρ0 ρ : Env} {ls0 ls ls' : Ls} {n : Nat} (h : bR p m ρ0 ρ ls0 ls) (he : Ext ls ls') (hp : ∀ l, p l = true → l < n) (hn : n ≤ ls.length) : bR p m ρ0 ρ ls0 ls' :=
 ⟨h.ag, fun l hl => by
   rw [← h.ls l hl]
   have hlt : l < ls.length := by have := hp l hl; omega
   have h1 : ls[l]? = some ls[l] := List.getElem?_eq_getElem hlt
   rw [h1, he _ _ h1], h.k⟩
theorem vr {n l : Nat} {mv : List (Nat × Nat)} (h : cB n mv l = true) : l < n := (ke h).2
theorem aF.ext {ls' : Ls} (h : Ext ls ls') : ∀ {K : List Fr} {r : Option Nat} {Q : Exit → Act → World → Prop}, aF P B w0 fn0 R0 ρ ls r K Q → aF P B w0 fn0 R0 ρ ls' r K Q
 | [], _, _, k => k
 | .seq _ :: _, _, _, ⟨Q', k, e⟩ => ⟨Q', aF.ext h k, e⟩
 | .ji _ :: _, _, _, ⟨Q', k, e⟩ => ⟨Q', aF.ext h k, e⟩
 | .lp _ _ :: _, _, _, ⟨Q', k, e⟩ => ⟨Q', aF.ext h k, e⟩
 | .xX :: _, _, _, ⟨Q', k, e⟩ => ⟨Q', aF.ext h k, e⟩
 | .inv .. :: _, _, _, ⟨Q', ρ0, ls0, ds, k, k1, k2, k3, k4, e⟩ => ⟨Q', ρ0, ls0, ds, aF.ext h k, k1.ext h (fun _ => vr) k2, Nat.le_trans k2 (L4 h), k3.ext h, k4, e⟩
 | .act .. :: _, _, _, ⟨e0, Q', r', a', ds, k, k1, k2, k3, k4, e⟩ => ⟨e0, Q', r', a', ds, aF.ext h k, k1.ext h, k2.ext h, k3, k4.ext h, e⟩
 | .pc .. :: _, _, _, ⟨e0, Q', r', a', ds, L, k, k1, k2, k3, k4, e⟩ => ⟨e0, Q', r', a', ds, L, aF.ext h k, k1.ext h, k2.ext h, k3, k4.ext h, e⟩
 | .pm .. :: _, _, _, ⟨e0, Q', r', a', ds, L, k, k1, k2, k3, k4, e⟩ => ⟨e0, Q', r', a', ds, L, aF.ext h k, k1.ext h, k2.ext h, k3, k4.ext h, e⟩
 | .oP .. :: _, _, _, ⟨e0, Q', r', a', ds, L, rec, k, k1, k2, k3, k4, k5, e⟩ => ⟨e0, Q', r', a', ds, L, rec, aF.ext h k, k1.ext h, k2.ext h, k3, k4.ext h, h _ _ k5, e⟩
 | .fE .. :: _, _, _, ⟨Q', L, k, k1, e⟩ => ⟨Q', L, aF.ext h k, h _ _ k1, e⟩
 | .sJ .. :: _, _, _, ⟨Q', r', a', ds, L, k, k1, k2, k3, k4, k5, e⟩ => ⟨Q', r', a', ds, L, aF.ext h k, k1.ext h, k2.ext h, k3, k4.ext h, h _ _ k5, e⟩
theorem aw.vu {ρ : Env} {ls : Ls} {tm : aw} {a : Act} {p : Nat → Bool} {m : Nat} (hr : aX ρ ls tm a) : aX ρ ls (tm.fh p m) a := ⟨hr.1, fun d t hd ht => by
 obtain ⟨x, h1, rfl⟩ := Tr.get_map ht
 split
 ·exact hr.2 d x hd h1
 ·exact bO _⟩
theorem aX.JA {ρ ρ' : Env} {ls ls' : Ls} {tm : aw} {a : Act} {p : Nat → Bool} {m : Nat} (hr : aX ρ ls tm a) (hM : bR p m ρ ρ' ls ls') : aX ρ' ls' (tm.fh p m) a := ⟨hr.1, fun d t hd ht => by
 obtain ⟨x, h1, rfl⟩ := Tr.get_map ht
 split
 ·rename_i hav
  exact RT.move hM hav (hr.2 d x hd h1)
 ·exact bO _⟩
theorem aF.fh {p : Nat → Bool} {m : Nat} : ∀ {K : List Fr} {r : Option Nat} {Q : Exit → Act → World → Prop}, aF P B w0 fn0 R0 ρ ls r K Q → aF P B w0 fn0 R0 ρ ls r (K.map (Fq p m)) Q
 | [], _, _, k => k
 | .seq _ :: _, _, _, ⟨Q', k, e⟩ => ⟨Q', aF.fh k, e⟩
 | .ji _ :: _, _, _, ⟨Q', k, e⟩ => ⟨Q', aF.fh k, e⟩
 | .lp _ _ :: _, _, _, ⟨Q', k, e⟩ => ⟨Q', aF.fh k, e⟩
 | .xX :: _, _, _, ⟨Q', k, e⟩ => ⟨Q', aF.fh k, e⟩
 | .inv .. :: _, _, _, ⟨Q', ρ0, ls0, ds, k, k1, k2, k3, k4, e⟩ => ⟨Q', ρ0, ls0, ds, aF.fh k, k1, k2, k3, k4, e⟩
 | .act .. :: _, _, _, ⟨e0, Q', r', a', ds, k, k1, k2, k3, k4, e⟩ => ⟨e0, Q', r', a', ds, aF.fh k, k1, k2, k3, aw.vu k4, e⟩
 | .pc .. :: _, _, _, ⟨e0, Q', r', a', ds, L, k, k1, k2, k3, k4, e⟩ => ⟨e0, Q', r', a', ds, L, aF.fh k, k1, k2, k3, k4, e⟩
 | .pm .. :: _, _, _, ⟨e0, Q', r', a', ds, L, k, k1, k2, k3, k4, e⟩ => ⟨e0, Q', r', a', ds, L, aF.fh k, k1, k2, k3, k4, e⟩
 | .oP .. :: _, _, _, ⟨e0, Q', r', a', ds, L, rec, k, k1, k2, k3, k4, k5, e⟩ => ⟨e0, Q', r', a', ds, L, rec, aF.fh k, k1, k2, k3, aw.vu k4, k5, e⟩
 | .fE .. :: _, _, _, ⟨Q', L, k, k1, e⟩ => ⟨Q', L, aF.fh k, k1, e⟩
 | .sJ .. :: _, _, _, ⟨Q', r', a', ds, L, k, k1, k2, k3, k4, k5, e⟩ => ⟨Q', r', a', ds, L, aF.fh k, k1, k2, k3, aw.vu k4, k5, e⟩
theorem aF.rn {L : ba} {d : Hd} {K : List Fr} {r : Option Nat} {Q : Exit → Act → World → Prop} (h : aF P B w0 fn0 R0 ρ ls r K Q) : aF P B w0 fn0 R0 ρ ls r (rn L d K) Q := by
 unfold Vc.rn
 split
 ·exact h
 ·exact h.fh
theorem zr {ls : Ls} {l : Nat} {v : Value} (h : ls[l]? = some v) : l < ls.length := (List.getElem?_eq_some_iff.1 h).1
theorem Fs {L : ba} {A : List E} {k : Nat → Option Loop} : jF L A (ρ.wk k) = jF L A ρ := by
 unfold jF
 rw [jv]; rfl
theorem aF.wk {k' : Nat → Option Loop} (h : ∀ i, i < ls.length → k' i = ρ.k i) : ∀ {K : List Fr} {r : Option Nat} {Q : Exit → Act → World → Prop}, aF P B w0 fn0 R0 ρ ls r K Q → aF P B w0 fn0 R0 (ρ.wk k') ls r K Q
 | [], _, _, k => k
 | .seq _ :: _, _, _, ⟨Q', k, e⟩ => ⟨Q', aF.wk h k, e⟩
 | .ji _ :: _, _, _, ⟨Q', k, e⟩ => ⟨Q', aF.wk h k, e⟩
 | .lp _ _ :: _, _, _, ⟨Q', k, e⟩ => ⟨Q', aF.wk h k, e⟩
 | .xX :: _, _, _, ⟨Q', k, e⟩ => ⟨Q', aF.wk h k, e⟩
 | .inv .. :: _, _, _, ⟨Q', ρ0, ls0, ds, k, k1, k2, k3, k4, k5, k6, k7, k8, e⟩ => ⟨Q', ρ0, ls0, ds, aF.wk h k, ⟨⟨k1.ag.x, k1.ag.f, k1.ag.p, k1.ag.g, k1.ag.o⟩, k1.ls, fun l hl => (h l (by have := vr hl; omega)).trans (k1.k l hl)⟩, k2, k3, k4, k5, k6, k7, k8, by rw [Fs]; exact e⟩
 | .act .. :: _, _, _, ⟨e0, Q', r', a', ds, k, k1, k2, k3, k4, e⟩ => ⟨e0, Q', r', a', ds, aF.wk h k, k1, k2, k3, nF.2 k4, e⟩
 | .pc .. :: _, _, _, ⟨e0, Q', r', a', ds, L, k, k1, k2, k3, k4, e⟩ => ⟨e0, Q', r', a', ds, L, aF.wk h k, k1, k2, k3, Bm k4, e⟩
 | .pm .. :: _, _, _, ⟨e0, Q', r', a', ds, L, k, k1, k2, k3, k4, e⟩ => ⟨e0, Q', r', a', ds, L, aF.wk h k, k1, k2, k3, Bm k4, e⟩
 | .oP .. :: _, _, _, ⟨e0, Q', r', a', ds, L, rec, k, k1, k2, k3, k4, k5, k6, e⟩ => ⟨e0, Q', r', a', ds, L, rec, aF.wk h k, k1, k2, k3, nF.2 k4, k5, (h _ (zr k5)).trans k6, e⟩
 | .fE .. :: _, _, _, ⟨Q', L, k, k1, e⟩ => ⟨Q', L, aF.wk h k, k1, e⟩
 | .sJ .. :: _, _, _, ⟨Q', r', a', ds, L, k, k1, k2, k3, k4, k5, e⟩ => ⟨Q', r', a', ds, L, aF.wk h k, k1, k2, k3, nF.2 k4, k5, e⟩
theorem xh {m : Nat} : ∀ {es : List E}, es.all (E.eB m) = true → (aL es).eB m = true
 | [], _ => rfl
 | e :: r, h => by
  simp only [List.all_cons, Bool.and_eq_true] at h
  simp only [aL, E.eB, Bool.and_eq_true]
  exact ⟨h.1, xh h.2⟩
theorem xi {M : Nat} : ∀ {n j : Nat}, j + n ≤ M → (CH j n).all (E.eB M) = true
 | 0, _, _ => rfl
 | n + 1, j, h => by
  simp only [CH, List.all_cons, Bool.and_eq_true, E.eB, decide_eq_true_eq]
  exact ⟨by omega, xi (by omega)⟩
theorem Ft {L : ba} {A : List E} {M : Nat} (hA : A.all (E.eB M) = true) (hM : L.m + L.k ≤ M) : (rl L A).eB M = true := by
 unfold rl
 refine xh ?_
 rw [List.all_append, Bool.and_eq_true]
 exact ⟨hA, xi hM⟩
theorem xj {L : ba} {A : List E} {M : Nat} {ρ' : Env} (h : Agree M ρ ρ') (hA : A.all (E.eB M) = true) (hM : L.m + L.k ≤ M) : jF L A ρ' = jF L A ρ := by
 unfold jF
 rw [aC h (Ft hA hM), h.f]
theorem aF.move {n m : Nat} {mv : List (Nat × Nat)} {ρ' : Env} {ls' : Ls} (h : bR (cB n mv) m ρ ρ' ls ls') (hn : n ≤ ls'.length) : ∀ {K : List Fr} {r : Option Nat} {Q : Exit → Act → World → Prop}, sq n mv m K = true → aF P B w0 fn0 R0 ρ ls r K Q → aF P B w0 fn0 R0 ρ' ls' r K Q
 | [], _, _, _, k => k
 | .seq _ :: _, _, _, hv, ⟨Q', k, e⟩ => ⟨Q', aF.move h hn hv k, e⟩
 | .ji _ :: _, _, _, hv, ⟨Q', k, e⟩ => ⟨Q', aF.move h hn hv k, e⟩
 | .lp _ _ :: _, _, _, hv, ⟨Q', k, e⟩ => ⟨Q', aF.move h hn hv k, e⟩
 | .xX :: _, _, _, hv, ⟨Q', k, e⟩ => ⟨Q', aF.move h hn hv k, e⟩
 | .inv L hd mv0 A df0 :: _, _, _, hv, ⟨Q', ρ0, ls0, ds, k, k1, k2, k3, k4, k5, k6, k7, k8, e⟩ => by
  simp only [sq, Bool.and_eq_true] at hv
  obtain ⟨⟨⟨⟨⟨v1, v2⟩, v3⟩, v4⟩, v5⟩, v6⟩ := hv
  have v1 := Nat.le_of_ble_eq_true v1
  have v3 := Nat.le_of_ble_eq_true v3
  have sub : ∀ l, cB hd.hp.length mv0 l = true → cB n mv l = true := fun l hl => by
   have hlt := vr hl
   simp only [cB, Bool.and_eq_true, Bool.not_eq_true'] at hl ⊢
   refine ⟨(by simp; omega), List.any_eq_false.2 fun x hx => ?_⟩
   have := List.all_eq_true.1 v2 x hx
   simp only [Bool.or_eq_true] at this
   intro hxl
   have hxl := Nat.eq_of_beq_eq_true hxl
   subst hxl
   rcases this with h1 | h1
   ·have := Nat.le_of_ble_eq_true h1; omega
   ·obtain ⟨y, hy, hyx⟩ := List.any_eq_true.1 h1
    exact List.any_eq_false.1 hl.2 y hy hyx
  refine ⟨Q', ρ0, ls0, ds, aF.move h hn v6 k, ⟨k1.ag.trans (h.ag.mono (by omega)), fun l hl => (h.ls l (sub l hl)).trans (k1.ls l hl), fun l hl => (h.k l (sub l hl)).trans (k1.k l hl)⟩, by omega, k3.move h.ls v5, k4, k5, k6, k7, k8, ?_⟩
  rw [xj h.ag v4 v3]; exact e
 | .act .. :: _, _, _, hv, ⟨e0, Q', r', a', ds, k, k1, k2, k3, k4, e⟩ => by
  simp only [sq, Bool.and_eq_true] at hv
  obtain ⟨⟨⟨v1, v2⟩, v3⟩, v4⟩ := hv
  exact ⟨e0, Q', r', a', ds, aF.move h hn v4 k, k1.move h.ls v3, k2.move h.ls v2, k3, k4.move h v1, e⟩
 | .pc .. :: _, _, _, hv, ⟨e0, Q', r', a', ds, L, k, k1, k2, k3, k4, e⟩ => by
  simp only [sq, Bool.and_eq_true] at hv
  obtain ⟨⟨⟨⟨v1, v0⟩, v2⟩, v3⟩, v4⟩ := hv
  exact ⟨e0, Q', r', a', ds, L, aF.move h hn v4 k, k1.move h.ls v3, k2.move h.ls v2, k3, k4.move h v1 v0, e⟩
 | .pm .. :: _, _, _, hv, ⟨e0, Q', r', a', ds, L, k, k1, k2, k3, k4, e⟩ => by
  simp only [sq, Bool.and_eq_true] at hv
  obtain ⟨⟨⟨⟨v1, v0⟩, v2⟩, v3⟩, v4⟩ := hv
  exact ⟨e0, Q', r', a', ds, L, aF.move h hn v4 k, k1.move h.ls v3, k2.move h.ls v2, k3, k4.move h v1 v0, e⟩
 | .oP .. :: _, _, _, hv, ⟨e0, Q', r', a', ds, L, rec, k, k1, k2, k3, k4, k5, k6, e⟩ => by
  simp only [sq, Bool.and_eq_true] at hv
  obtain ⟨⟨⟨⟨v0, v1⟩, v2⟩, v3⟩, v4⟩ := hv
  exact ⟨e0, Q', r', a', ds, L, rec, aF.move h hn v4 k, k1.move h.ls v3, k2.move h.ls v2, k3, k4.move h v1, (h.ls _ v0).trans k5, (h.k _ v0).trans k6, e⟩
 | .fE .. :: _, _, _, hv, ⟨Q', L, k, k1, e⟩ => by
  simp only [sq, Bool.and_eq_true] at hv
  exact ⟨Q', L, aF.move h hn hv.2 k, (h.ls _ hv.1).trans k1, e⟩
 | .sJ .. :: _, _, _, hv, ⟨Q', r', a', ds, L, k, k1, k2, k3, k4, k5, e⟩ => by
  simp only [sq, Bool.and_eq_true] at hv
  obtain ⟨⟨⟨⟨v0, v1⟩, v2⟩, v3⟩, v4⟩ := hv
  exact ⟨Q', r', a', ds, L, aF.move h hn v4 k, k1.move h.ls v3, k2.move h.ls v2, k3, k4.move h v1, (h.ls _ v0).trans k5, e⟩
theorem tJ {fn : Func} {tmps : Array Value} {R : Ending → World → Prop} : ∀ {df : List Nat} {hp hp' : SH} {ds : List Deferred} {w : World}, vv hp df = some hp' → jg ls df ds → aB ρ B w0 ls hp w →
 (∀ w', aB ρ B w0 ls hp' w' → ∃ v, (results fn tmps).run P w' = .ok v w' ∧ R (.returned v) w') → LeavesInM Fence.wide 0 P fn tmps R ds .returning w
 | [], hp, hp', [], w, h, _, hh, hk => by cases h; exact hk w hh
 | d :: df, hp, hp', d0 :: ds, w, h, ⟨⟨D, e1, e2⟩, hd⟩, hh, hk => by
  simp only [vv] at h
  split at h
  ·rename_i b ty hm
   obtain ⟨hb, D', g1, g2, g3⟩ := hh.bA d _ hm
   rw [e1] at g1
   cases g1
   have hb : b = true := hb
   subst hb
   refine ⟨by simp, .inl ⟨D, w.putObj D (.deferred none), by rw [e2], run_takeDeferred g3, ?_⟩⟩
   exact tJ h hd (hh.lY hm rfl (w' := w.putObj D (.deferred none)) (row := some D) ⟨rfl, rfl, rfl, by simp [World.putObj], fun k _ hk => World.putObj_heap_other (fun e => hk (by rw [e]))⟩ (.inr ⟨_, rfl, .inl (by rw [e1]; rfl)⟩) trivial) hk
  ·cases h
 | [], _, _, _ :: _, _, _, h, _, _ => h.elim
 | _ :: _, _, _, [], _, _, h, _, _ => h.elim
theorem gg {s : St} {df : List Nat} {fn : Func} {v : SV} {hp' : SH} {ds : List Deferred} {R : Ending → World → Prop} (h : kC P cf s df fn = some (v, hp')) (hg : cf.bL = ρ.g) (hr : aX ρ ls s.tm a) (hd : jg ls df ds) (hds : a.defers = ds) (hh : aB ρ B w0 ls s.hp w)
 (hk : ∀ z w', RV ρ ls v z → aB ρ B w0 ls hp' w' → R (.returned z) w') : bodyPostM Fence.wide 0 P fn R .normal a w ∧ bodyPostM Fence.wide 0 P fn R .ret a w := by
 unfold kC at h
 split at h
 ·rename_i hp1 h1
  split at h
  ·rename_i v' hv
   cases h
   rw [hg] at hv
   have : LeavesInM Fence.wide 0 P fn a.tmps R a.defers .returning w := by
    rw [hds]
    exact tJ h1 hd hh fun w' hw' => by
     obtain ⟨z, hz, hz'⟩ := Fk hv hr hw'
     exact ⟨z, hz, hk z w' hz' hw'⟩
   exact ⟨this, this⟩
  ·cases h
 ·cases h
end
end Vc
end Go.Proofs.YtpmfkelglmgddaaGreatDoor
namespace Go.Proofs.YtpmfkelglmgddaaGreatDoor
namespace Vc
open Go Go.RowKit
set_option linter.unusedVariables false
section
variable {P : Program} {ρ : Env} {B : Nat} {w0 : World} {cf : a8}
theorem pw {r : Option Nat} {ds : List Deferred} {sm : Sm} {all : Array Oper} {hp : SH} {neg : List E} {ls : Ls} {Q : Exit → Act → World → Prop} (hsm : fS P ρ sm) (hc : aP P ρ cf) (hneg : ∀ e ∈ neg, al ρ e = false) : ∀ {l l' : List Oper} {tm tm' : aw} {a : Act} {w : World}, CI P cf sm hp neg all l tm = (l', tm') → aX ρ ls tm a → a.defers = ds → aB ρ B w0 ls hp w →
 (∀ a' w', aX ρ ls tm' a' → a'.defers = ds → aB ρ B w0 ls hp w' → wpListIn (dD r) 0 P all Q l' a' w') → wpListIn (dD r) 0 P all Q l a w
 | [], l', tm, tm', a, w, h, hr, hd, hh, hq => by cases h; exact hq a w hr hd hh
 | o :: rr, l', tm, tm', a, w, h, hr, hd, hh, hq => by
  simp only [CI] at h
  split at h
  ·rename_i hg
   have hwd := bF hg hr hneg
   exact jy hwd (pw hsm hc hneg h (hr.put _ lB) (aW hd _ _) hh hq)
  ·rename_i Gd hg
   have hwd := bF hg hr hneg
   split at h
   ·rename_i v ow hv
    split at h
    ·rename_i how
     cases hGd : al ρ Gd
     ·exact jy (hwd.trans hGd) (pw hsm hc hneg h (hr.put _ ⟨(fun e => by rw [show al ρ Gd = true from e] at hGd; cases hGd), fun _ => rfl⟩) (aW hd _ _) hh hq)
     ·have hu := vw (P := P) (a := a) (w := w) hsm hv hc (Ow.pq how) hr hGd hh
      refine iD (hwd.trans hGd) (qV hu hh fun z w' hz hw' => ?_)
      exact pw hsm hc hneg h (hr.put _ ⟨fun _ => mz hneg hz, (fun e => by rw [show al ρ Gd = false from e] at hGd; cases hGd)⟩) (aW hd _ _) hw' hq
    ·cases h; exact hq a w hr hd hh
   ·cases h; exact hq a w hr hd hh
  ·cases h; exact hq a w hr hd hh
theorem Bn {L : Env → SV → SH → Prop} {f : Fm} {l : List E} (h : (Cy (.bc true) l f).holds L ρ) : (∀ e ∈ l, al ρ e = true) ∧ f.holds L ρ := by
 obtain ⟨h1, h2⟩ := vg h
 exact ⟨h1 rfl, h2⟩
theorem Bo {L : Env → SV → SH → Prop} {f : Fm} : ∀ {n j : Nat} {ρ : Env}, (L5 j n f).holds L ρ → ∀ ys : List X, ys.length = n → f.holds L (ρ.cV j ys)
 | 0, j, ρ, h, [], _ => by rw [Cb]; exact h
 | n + 1, j, ρ, h, y :: ys, hl => by
  have := Bo (h y) ys (by simpa using hl)
  rwa [yO] at this
theorem dV.yS {tm : aw} {hp : SH} {ls : Ls} {a : Act} {w : World} {x : dV} {s : SC} (h : x.get tm hp = some s) (hr : aX ρ ls tm a) (hh : aB ρ B w0 ls hp w) : ∃ v, RS ρ ls s v := by
 cases x with
 | tmp d =>
  simp only [dV.get] at h
  split at h
  ·rename_i g s' ht
   split at h
   ·rename_i hg
    cases h
    exact ⟨_, (hr.at ht).1.1 (bJ hg)⟩
   ·cases h
  ·cases h
 | part d j =>
  simp only [dV.get] at h
  split at h
  ·rename_i g l ht
   split at h
   ·rename_i hg
    obtain ⟨vs, _, h2⟩ := (hr.at ht).1.1 (bJ hg)
    obtain ⟨v, _, hv⟩ := h2.get h
    exact ⟨v, hv⟩
   ·cases h
  ·cases h
 | ex e => cases h
 | cell l j =>
  simp only [dV.get] at h
  split at h
  ·rename_i b ty cs hx
   obtain ⟨a', vs, _, h2, _⟩ := hh.bA l _ hx
   obtain ⟨v, _, hv⟩ := h2.get h
   exact ⟨v, hv⟩
  ·rename_i b ty s0 q hi hx
   cases h
   obtain ⟨_, L, str, _, _, _, _, _, h3, h4, h5⟩ := hh.bA l _ hx
   exact ⟨_, rfl, h3, by omega⟩
  ·cases h
 | own l =>
  simp only [dV.get] at h
  split at h
  ·rename_i b ty sh R n hi hx
   cases h
   obtain ⟨A, c, h1, _⟩ := hh.bA l _ hx
   exact ⟨_, h1, _, _, _, rfl⟩
  ·rename_i b ty R n hi hx
   cases h
   obtain ⟨_, L, es, clock, h1, _⟩ := hh.bA l _ hx
   exact ⟨_, L, h1, rfl⟩
  ·cases h; exact ⟨_, rfl⟩
  ·cases h
 | ind d j =>
  simp only [dV.get] at h
  split at h
  ·rename_i g l o ht
   split at h
   ·split at h
    ·rename_i b ty cs hx
     obtain ⟨a', vs, _, h2, _⟩ := hh.bA l _ hx
     obtain ⟨v, _, hv⟩ := h2.get h
     exact ⟨v, hv⟩
    ·cases h
   ·cases h
  ·cases h
 | mS l => cases h
 | LI d => cases h
 | KV d => cases h
theorem mE {L : Env → SV → SH → Prop} {h : St} {ls : Ls} {a : Act} {w : World} {f : Fm} (hr : aX ρ ls h.tm a) (hh : aB ρ B w0 ls h.hp w) : ∀ {xs : List dV}, (zt h xs f).holds L ρ → f.holds L ρ
 | [], hf => hf
 | x :: r, hf => by
  simp only [zt] at hf
  split at hf
  ·rename_i k e lo hi hx
   obtain ⟨v, _, h1, h2⟩ := dV.yS hx hr hh
   exact mE hr hh (hf ⟨h1, h2⟩)
  ·rename_i l hx
   split at hf
   ·rename_i b ty sh R n hi hl
    obtain ⟨A, c, _, h2, h3, _, _, h6, _⟩ := hh.bA l _ hl
    exact mE hr hh (hf ⟨h2, h3, h6⟩)
   ·exact mE hr hh hf
  ·exact mE hr hh hf
theorem dV.Fu {tm tm' : aw} {hp hp' : SH} {ls : Ls} {a : Act} {w : World} {x : dV} {s s' : SC} (hx : x.get tm hp = some s) (h : x.put s' (tm, hp) = some (tm', hp')) (hs : ∀ v, RS ρ ls s v → RS ρ ls s' v) (hr : aX ρ ls tm a) (hh : aB ρ B w0 ls hp w) : aX ρ ls tm' a ∧ aB ρ B w0 ls hp' w := by
 cases x with
 | tmp d =>
  simp only [dV.get] at hx
  simp only [dV.put] at h
  cases h
  split at hx
  ·rename_i g s0 ht
   split at hx
   ·rename_i hg
    cases hx
    refine ⟨hr.CJ fun e he => ?_, hh⟩
    cases he
    exact a6 (hs _ ((hr.at ht).1.1 (bJ hg)))
   ·cases hx
  ·cases hx
 | part d j =>
  simp only [dV.get] at hx
  simp only [dV.put] at h
  split at hx
  ·rename_i g l ht
   rw [ht] at h
   cases h
   split at hx
   ·rename_i hg
    refine ⟨hr.CJ fun e he => ?_, hh⟩
    cases he
    obtain ⟨vs, h1, h2⟩ := (hr.at ht).1.1 (bJ hg)
    obtain ⟨v, hv, hrv⟩ := h2.get hx
    refine ⟨fun _ => ⟨vs, h1, ?_⟩, fun e => by rw [bJ hg] at e; cases e⟩
    have := h2.set j (hs v hrv)
    rwa [mh hv] at this
   ·cases hx
  ·cases hx
 | ex e => cases hx
 | cell l j =>
  simp only [dV.get] at hx
  simp only [dV.put] at h
  split at hx
  ·rename_i b ty cs hl
   rw [hl] at h
   cases h
   refine ⟨hr, hh.fh hl ?_ (fun e => e) (fun b hb => ⟨hb.1, rfl, fun _ => trivial⟩)⟩
   obtain ⟨a', vs, h1, h2, h3⟩ := hh.bA l _ hl
   obtain ⟨v, hv, hrv⟩ := h2.get hx
   refine ⟨a', vs, h1, ?_, h3⟩
   have := h2.set j (hs v hrv)
   rwa [mh hv] at this
  ·rename_i hl
   rw [hl] at h
   cases h
  ·cases hx
 | own l =>
  simp only [dV.put] at h
  split at h
  ·split at h
   ·cases h; exact ⟨hr, hh⟩
   ·cases h
  ·cases h
 | ind d j => cases h
 | mS l => cases hx
 | LI d => cases hx
 | KV d => cases hx
theorem dV.Bp {x : dV} {tm : aw} {hp : SH} {s : SC} {e : HE} (h : x.get tm hp = some s) : x.get tm (hp ++ [e]) = some s := by
 cases x with
 | tmp d => exact h
 | part d j => exact h
 | ex e => cases h
 | cell l j =>
  simp only [dV.get] at h ⊢
  split at h
  ·rename_i b ty cs hl
   rw [List.getElem?_append_left (List.getElem?_eq_some_iff.1 hl).1, hl]
   exact h
  ·rename_i b ty s0 q hi hl
   rw [List.getElem?_append_left (List.getElem?_eq_some_iff.1 hl).1, hl]
   exact h
  ·cases h
 | own l =>
  simp only [dV.get] at h ⊢
  split at h
  ·rename_i b ty sh R n hi hl
   rw [List.getElem?_append_left (List.getElem?_eq_some_iff.1 hl).1, hl]
   exact h
  ·rename_i b ty R n hi hl
   rw [List.getElem?_append_left (List.getElem?_eq_some_iff.1 hl).1, hl]
   exact h
  ·rename_i b ty t lo A hl
   rw [List.getElem?_append_left (List.getElem?_eq_some_iff.1 hl).1, hl]
   exact h
  ·cases h
 | ind d j =>
  simp only [dV.get] at h ⊢
  split at h
  ·rename_i g l o ht
   by_cases hg : lJ g = true
   ·rw [if_pos hg] at h ⊢
    split at h
    ·rename_i b ty cs hl
     rw [List.getElem?_append_left (List.getElem?_eq_some_iff.1 hl).1, hl]
     exact h
    ·cases h
   ·rw [if_neg hg] at h; cases h
  ·cases h
 | mS l => cases h
 | LI d => cases h
 | KV d => cases h
theorem rp {x : dV × TypeId × List Sk × Int} {s s' : aw × SH} {ls : Ls} {a : Act} {w : World} (h : px x s = some s') (hr : aX ρ ls s.1 a) (hh : aB ρ B w0 ls s.2 w) : ∃ ls', Ext ls ls' ∧ aX ρ ls' s'.1 a ∧ aB ρ B w0 ls' s'.2 w := by
 unfold px at h
 split at h
 ·rename_i l hx
  split at h
  ·cases h; exact ⟨ls, Ext.refl _, hr, hh⟩
  ·split at h
   ·rename_i ty sh R n hi hl
    obtain ⟨A, c, hls, k1, k2, k3, k4, k5, _, k7⟩ := hh.bA l _ hl
    have hlt : l < ls.length := (List.getElem?_eq_some_iff.1 hls).1
    have hh' : aB ρ B w0 (ls ++ [.slice A (aa ρ n).toNat c]) (s.2 ++ [⟨false, x.2.1, .row sh R n hi⟩]) w := by
     refine hh.join ⟨A, c, by simp, k1, k2, k3, k4, k5, (fun e => by cases e), k7⟩ (fun e => by cases e) (fun b hb i y hy hlv hbl => ?_)
     have hr2 : bn ρ ls l ⟨false, ty, .row sh R n hi⟩ b := ⟨by rw [hls]; have := hb.1; simpa using this, hb.2.1, hb.2.2⟩
     have e := hh.inj i l y _ b hy hl hlv hbl hr2
     subst e
     rw [hl] at hy
     cases hy
     cases hlv
    have hx' := dV.Bp (e := ⟨false, x.2.1, .row sh R n hi⟩) hx
    have e : Ext ls (ls ++ [.slice A (aa ρ n).toNat c]) := Ext.snoc ls _
    obtain ⟨tm', hp'⟩ := s'
    obtain ⟨h1, h2⟩ := dV.Fu hx' h (fun v hv => by
     obtain ⟨hv1, hv2⟩ := hv
     rw [List.getElem?_append_left hlt, hls] at hv1
     refine ⟨?_, hv2⟩
     rw [← hv1, ← hh.len]
     simp) (hr.ext e) hh'
    exact ⟨_, e, h1, h2⟩
   ·rename_i ty sz cs hl
    split at h
    ·rename_i es ht
     split at h
     ·rename_i hc
      simp only [Bool.and_eq_true, decide_eq_true_eq] at hc
      obtain ⟨hz, hle⟩ := hc
      have hz := Nat.eq_of_beq_eq_true hz
      cases h
      obtain ⟨_, h0, A, n, c, vs, e1, e2, e3, e4⟩ := hh.bA l _ hl
      have hn : cs.length / sz = n := by rw [e3.len, e2]; exact Nat.mul_div_cancel _ h0
      rw [hz] at e2 e4
      obtain ⟨t1, t2⟩ := lT (n := n) ht e3 e2
      have hnc : n ≤ c := by
       rcases e4.2 with ⟨e', _⟩ | ⟨g, cap, cur, e', _, _, h5, _⟩
       ·injection e' with _ e' e''; omega
       ·injection e' with _ _ e''; omega
      refine ⟨ls, Ext.refl _, hr, hh.fh hl ?_ (fun _ => rfl) (fun b hb => ⟨hb.1, rfl, fun e => by cases e⟩)⟩
      rw [hn] at hle ⊢
      exact ⟨A, c, e1, Int.natCast_nonneg _, hle, hnc, by rw [← hz]; exact h0, t1, fun _ => by rw [← t2] at e4; exact e4, fun e => by cases e⟩
     ·cases h; exact ⟨ls, Ext.refl _, hr, hh⟩
    ·cases h; exact ⟨ls, Ext.refl _, hr, hh⟩
   ·cases h; exact ⟨ls, Ext.refl _, hr, hh⟩
 ·rename_i hx
  split at h
  ·rename_i hc
   simp only [Bool.and_eq_true, decide_eq_true_eq] at hc
   have hh' : aB ρ B w0 (ls ++ [.slice none 0 0]) (s.2 ++ [⟨true, x.2.1, .row x.2.2.1 (.bE 1 .nil) (.ic 0) x.2.2.2⟩]) w := by
    refine hh.push (aN (Below.refl _ _) none) ?_ (fun b e => by cases e.sl)
    exact ⟨none, 0, by simp [aa, ev, dI, xI], Int.le_refl _, hc.2, Nat.le_refl _, hc.1, fun i hi => by simp [aa, ev, dI, xI] at hi, fun _ => World.ownsRow_nil w B _ _, fun e => by cases e⟩
   have hx' := dV.Bp (e := ⟨true, x.2.1, .row x.2.2.1 (.bE 1 .nil) (.ic 0) x.2.2.2⟩) hx
   have e : Ext ls (ls ++ [.slice none 0 0]) := Ext.snoc ls _
   obtain ⟨tm', hp'⟩ := s'
   obtain ⟨h1, h2⟩ := dV.Fu hx' h (fun v hv => by
    have hv : v = _ := hv
    subst hv
    exact ⟨by rw [← hh.len]; simp, none, 0, 0, rfl⟩) (hr.ext e) hh'
   exact ⟨_, e, h1, h2⟩
  ·cases h
 ·cases h
theorem CK {c : SC} (h : zu c = true) : c = .di (.slice none 0 0) := by
 unfold zu at h
 split at h
 ·rfl
 ·cases h
theorem Fv {x : dV × TypeId × List Sk × Int} {s s' : aw × SH} {ls : Ls} {a : Act} {w : World} (h : Fw x s = some s') (hr : aX ρ ls s.1 a) (hh : aB ρ B w0 ls s.2 w) : ∃ ls', Ext ls ls' ∧ aX ρ ls' s'.1 a ∧ aB ρ B w0 ls' s'.2 w := by
 unfold Fw at h
 split at h
 ·rename_i l ty sk hi
  split at h
  ·rename_i ty' cs hl
   split at h
   ·rename_i hc
    simp only [Bool.and_eq_true, decide_eq_true_eq] at hc
    obtain ⟨hc, h0⟩ := hc
    cases h
    obtain ⟨a', vs, q1, q2, q3, q4, _⟩ := hh.bA l _ hl
    obtain ⟨b, rfl, q5, q6⟩ := q4 rfl
    have hlen := q2.len
    have hv : ∀ (j : Nat) (u : Value), vs[j]? = some u → u = .slice none 0 0 := fun j u hu => by
     have hj : j < cs.length := by have := (List.getElem?_eq_some_iff.1 hu).1; omega
     have e1 : cs[j]? = some cs[j] := List.getElem?_eq_getElem hj
     obtain ⟨u', g1, g2⟩ := q2.get e1
     rw [hu] at g1
     cases g1
     rw [CK (List.all_eq_true.1 hc _ (List.getElem_mem hj))] at g2
     exact g2
    have hev : Ext ls (ls ++ [.agg vs.toArray]) := Ext.snoc ls _
    have hll : l < ls.length := (List.getElem?_eq_some_iff.1 q1).1
    have h1 : aB ρ B w0 (ls ++ [.agg vs.toArray]) (s.2 ++ [⟨true, ty, .mS cs.length (.kY .nil) sk hi⟩]) w := by
     refine hh.push (aN (Below.refl _ _) none) ⟨rfl, vs.toArray, by simp, by simp [hlen], fun j hj => ?_, fun j j' u u' b hu _ hb _ => ?_⟩ (fun b hb => ?_)
     ·have hj' : j < vs.length := by omega
      have e1 : vs[j]? = some vs[j] := List.getElem?_eq_getElem hj'
      refine ⟨none, 0, 0, by simp [hj', hv j _ e1], rfl, h0, fun k hk => by omega, World.ownsRow_nil w B _ _⟩
     ·have := hv j u (by simpa using hu)
      subst this
      cases hb
     ·obtain ⟨j, a0, n, c, e1, _⟩ := hb.mS
      have := hv j _ (by simpa using e1)
      cases this
    refine ⟨_, hev, hr.ext hev, ?_⟩
    have hl' : (s.2 ++ [⟨true, ty, .mS cs.length (.kY .nil) sk hi⟩])[l]? = some ⟨true, ty', .cells cs⟩ := by
     rw [List.getElem?_append_left (List.getElem?_eq_some_iff.1 hl).1]; exact hl
    have h2 := h1.lY (x' := ⟨true, ty', .lg s.2.length none⟩) hl' rfl (aN (Below.refl _ _) none) (.inl rfl) ⟨rfl, b, vs.toArray, vs.toArray, hev _ _ q1, by rw [← hh.len]; simp, q5, q6, rfl, fun _ _ => rfl⟩
    rwa [List.set_append_left _ _ (List.getElem?_eq_some_iff.1 hl).1] at h2
   ·cases h
  ·cases h; exact ⟨ls, Ext.refl _, hr, hh⟩
  ·cases h; exact ⟨ls, Ext.refl _, hr, hh⟩
  ·cases h
 ·split at h
  ·cases h; exact ⟨ls, Ext.refl _, hr, hh⟩
  ·cases h; exact ⟨ls, Ext.refl _, hr, hh⟩
  ·exact rp h hr hh
 ·exact rp h hr hh
theorem od {a : Act} {w : World} : ∀ {xs : List (dV × TypeId × List Sk × Int)} {s s' : aw × SH} {ls : Ls}, jG xs s = some s' → aX ρ ls s.1 a → aB ρ B w0 ls s.2 w → ∃ ls', Ext ls ls' ∧ aX ρ ls' s'.1 a ∧ aB ρ B w0 ls' s'.2 w
 | [], s, s', ls, h, hr, hh => by cases h; exact ⟨ls, Ext.refl _, hr, hh⟩
 | x :: r, s, s', ls, h, hr, hh => by
  simp only [jG] at h
  split at h
  ·rename_i s1 h1
   obtain ⟨ls1, e1, hr1, hh1⟩ := Fv h1 hr hh
   obtain ⟨ls2, e2, hr2, hh2⟩ := od h hr1 hh1
   exact ⟨ls2, e1.trans e2, hr2, hh2⟩
  ·cases h
theorem CL {L : ba} {c : Code} {s : St} {d : Hd} (h : vx L c s = some d) : jG L.rows (s.tm, s.hp) = some (d.s1.tm, d.s1.hp) ∧ d.s1.neg = s.neg ∧ d.h.neg = s.neg.filter (E.eB L.m) := by
 unfold vx at h
 split at h
 ·rename_i s1 h1
  split at h
  ·split at h
   ·split at h
    ·cases h; exact ⟨h1, rfl, rfl⟩
    ·cases h
   ·cases h
  ·cases h
 ·cases h
theorem Bq {ρ : Env} {ys : List X} : ∀ {n j : Nat}, (∀ i y, ys[i]? = some y → ρ.x (j + i) = y) → ys.length = n → (CH j n).map (fun e => (ev ρ e).x) = ys
 | 0, j, h, hl => by cases ys with | nil => rfl | cons _ _ => simp at hl
 | n + 1, j, h, hl => by
  cases ys with
  | nil => simp at hl
  | cons y ys =>
   simp only [CH, List.map_cons]
   rw [show (ev ρ (E.var j)).x = y from h 0 y rfl]
   congr 1
   refine Bq (ρ := ρ) (ys := ys) (n := n) (j := j + 1) (fun i z hi => ?_) (by simpa using hl)
   have := h (i + 1) z (by simpa using hi)
   rwa [show j + (i + 1) = j + 1 + i by omega] at this
theorem nG {M : Nat} {ρ ρ' : Env} (h : Agree M ρ ρ') : ∀ {es : List E}, es.all (E.eB M) = true → es.map (fun e => (ev ρ' e).x) = es.map fun e => (ev ρ e).x
 | [], _ => rfl
 | e :: r, he => by
  simp only [List.all_cons, Bool.and_eq_true] at he
  simp only [List.map_cons]
  rw [aC h he.1, nG h he.2]
theorem Br {L : ba} {A : List E} {ρ ρ0 : Env} {θ : List E} (hA : A.all (E.eB L.m) = true) (ha : Agree L.m ρ0 ρ) (hl : θ.length = L.k) :
 (ev (ρ0.cV L.m (θ.map fun e => (ev ρ e).x)) (rl L A)).l = (ev ρ (aL (A ++ θ))).l := by
 unfold rl
 rw [bM, bM]
 unfold aM
 rw [List.map_append, List.map_append, nG (Agree.cV ρ0 L.m _) hA, ← nG ha hA]
 congr 1
 exact Bq (fun i y hi => mf ρ0 L.m _ i y hi) (by simpa using hl)
theorem xk {n l : Nat} : ∀ {mv mv' : List (Nat × Nat)}, mF mv mv' = true → cB n mv l = cB n mv' l
 | [], [], _ => rfl
 | a :: r, b :: s, h => by
  simp only [mF, Bool.and_eq_true] at h
  have e := Nat.eq_of_beq_eq_true h.1
  have := xk (n := n) (l := l) h.2
  simp only [cB, List.any_cons, e] at this ⊢
  cases hb : Nat.beq b.1 l
  ·simpa using this
  ·simp
 | [], _ :: _, h => by cases h
 | _ :: _, [], h => by cases h
theorem Fy {h : SH} {mv : List (Nat × Nat)} (hm : mv.all (ec h) = true) : ∀ x ∈ mv, x.1 < h.length := fun x hx => by
 have := List.all_eq_true.1 hm x hx
 unfold ec at this
 split at this
 ·cases this
 ·rename_i hl; exact (List.getElem?_eq_some_iff.1 hl).1
 ·cases this
theorem rq {h : SH} : ∀ {mv mv' : List (Nat × Nat)}, mF mv mv' = true → mv.all (ec h) = true → mv'.all (ec h) = true
 | [], [], _, _ => rfl
 | a :: r, b :: s, hs, hm => by
  simp only [mF, Bool.and_eq_true] at hs
  simp only [List.all_cons, Bool.and_eq_true] at hm ⊢
  have e := Nat.eq_of_beq_eq_true hs.1
  exact ⟨by have := hm.1; unfold ec at this ⊢; rw [← e]; exact this, rq hs.2 hm.2⟩
 | [], _ :: _, h, _ => by cases h
 | _ :: _, [], h, _ => by cases h
theorem Bs {L : ba} {h s : St} {mv mv' : List (Nat × Nat)} {A θ : List E} {ds : List Deferred} {ρ0 : Env} {ls0 ls : Ls} {a : Act} {w : World} {bg : List E}
 (hM0 : bR (cB h.hp.length mv) L.m ρ0 ρ ls0 ls) (hK : mF mv mv' = true) (hmv : mv.all (ec h.hp) = true) (hl : θ.length = L.k) (hi : inst L.m mv' θ h s = some bg) (ho : ∀ e ∈ bg, al ρ e = true)
 (htm : h.tm.av (fun _ => true) (L.m + L.k) = true) (hhp : h.hp.all (HE.av (fun _ => true) (L.m + L.k)) = true) (hA : A.all (E.eB L.m) = true) (hpre : ρ.p L.pre (ev ρ (aL (A ++ θ))).l) (hr : aX ρ ls s.tm a) (hd : a.defers = ds) (hh : aB ρ B w0 ls s.hp w) :
 Iy B w0 L h mv A ds ρ0 ls0 (jF L A (ρ0.cV L.m (θ.map fun e => (ev ρ e).x))) a w := by
 obtain ⟨m1, m2, m3⟩ := inst_ok hi ho (Fy (rq hK hmv)) hr hh
 have hu : ∀ l, cB h.hp.length mv l = cB h.hp.length mv' l := fun l => xk hK
 have hag : Agree (L.m + L.k) (cJ ρ L.m θ) (ρ0.cV L.m (θ.map fun e => (ev ρ e).x)) := by
  refine ⟨fun j hj => ?_, ?_, ?_, ?_, ?_⟩
  ·by_cases hjm : j < L.m
   ·show (if L.m ≤ j then _ else ρ0.x j) = (if L.m ≤ j then _ else ρ.x j)
    rw [if_neg (by omega), if_neg (by omega), hM0.ag.x j hjm]
   ·have hlt : j - L.m < (θ.map fun e => (ev ρ e).x).length := by rw [List.length_map]; omega
    have g := List.getElem?_eq_getElem hlt
    have g1 := mf ρ0 L.m _ _ _ g
    have g2 := mf ρ L.m _ _ _ g
    rw [show L.m + (j - L.m) = j by omega] at g1 g2
    rw [g1]; exact g2.symm
  ·exact hM0.ag.f.symm
  ·exact hM0.ag.p.symm
  ·exact hM0.ag.g.symm
  ·exact hM0.ag.o.symm
 refine ⟨_, eb ls mv' h.hp.length, by simpa using hl, ⟨Agree.cV ρ0 L.m _, fun l hl' => ?_, fun l _ => rfl⟩, m2.agree hag htm, hd, m3.agree hag hhp ?_, ?_, rfl⟩
 ·rw [← hM0.ls l hl', ← m1.ls l (by rw [← hu]; exact hl')]
 ·intro i x st pd hx hk
  refine (hM0.k i ?_).symm
  have hlt : i < h.hp.length := (List.getElem?_eq_some_iff.1 hx).1
  simp only [cB, Bool.and_eq_true, Bool.not_eq_true']
  refine ⟨by simp; omega, List.any_eq_false.2 fun y hy hyi => ?_⟩
  have hyi := Nat.eq_of_beq_eq_true hyi
  have := List.all_eq_true.1 hmv y hy
  unfold ec at this
  rw [hyi, hx] at this
  obtain ⟨wr, ty, k⟩ := x
  simp only at hk
  subst hk
  cases this
 ·rw [Br hA hM0.ag hl, ← hM0.ag.p]
  exact hpre
end
end Vc
end Go.Proofs.YtpmfkelglmgddaaGreatDoor
namespace Go.Proofs.YtpmfkelglmgddaaGreatDoor
namespace Vc
open Go Go.RowKit
set_option linter.unusedVariables false
section
variable {P : Program} {ρ : Env} {B : Nat} {w0 : World} {cf : a8}
theorem py {sm : Sm} {hp : SH} {neg : List E} {ops : Array Oper} {tm : aw} {k c : Nat} : ∀ {d m n : Nat} {ah : List It}, CM P cf sm hp neg ops tm k c d m = some (n, ah) → ru P cf sm hp neg ops tm k c n = some ah ∧ fY ops tm k c n = true
 | 0, _, _, _, h => by cases h
 | d + 1, m, n, ah, h => by
  simp only [CM] at h
  split at h
  ·rename_i hc
   split at h
   ·rename_i its' hi
    cases h; exact ⟨hi, hc⟩
   ·exact py h
  ·exact py h
theorem xl {sm : Sm} {hp : SH} {neg : List E} {ops : Array Oper} {tm : aw} {k c n : Nat} {ah : List It} {r : FuncId × Func × Code × List SV} (h : rv P cf sm hp neg ops tm k = some (c, n, ah, r)) : ru P cf sm hp neg ops tm k c n = some ah ∧ fY ops tm k c n = true ∧ ry cf neg ops tm c n ah = some r := by
 unfold rv at h
 generalize (sK P cf sm hp neg ops tm k (mG [] (ops.toList.drop k) + k)).ah.length = c' at h
 simp only at h
 split at h
 ·rename_i n' its' htry
  split at h
  ·rename_i r' hcall
   cases h
   obtain ⟨h1, h2⟩ := py htry
   exact ⟨h1, h2, hcall⟩
  ·cases h
 ·cases h
theorem dK {hp : SH} {l : Nat} {b : Bool} {ty : TypeId} {st : LoopState} {pd : Option (Option Nat)} (h : fm hp l = some (b, ty, st, pd)) : hp[l]? = some ⟨b, ty, .bW st pd⟩ := by
 unfold fm at h
 split at h
 ·rename_i hl; cases h; exact hl
 ·cases h
theorem rz {st : LoopState} {pd : Option (Option Nat)} (h : isReady (st, pd) = true) : st = .ready ∧ pd = none := by
 unfold isReady at h
 split at h
 ·rename_i e; cases e; exact ⟨rfl, rfl⟩
 ·cases h
theorem tK {st : LoopState} (h : ¬ rA st = true) : st ≠ .busy := fun e => by subst e; exact h rfl
theorem mH (w : World) (L : Nat) (o : Obj) : w.grownBy (w.putObj L o) (some L) := ⟨rfl, rfl, rfl, by simp [World.putObj], fun k _ hk => World.putObj_heap_other (fun e => hk (by rw [e]))⟩
theorem aB.bW {ls : Ls} {hp : SH} {w : World} {l : Nat} {b : Bool} {ty : TypeId} {st : LoopState} {pd : Option (Option Nat)} (hh : aB ρ B w0 ls hp w) (hl : hp[l]? = some ⟨b, ty, .bW st pd⟩) :
 ∃ L r, ls[l]? = some (.pointer (some ⟨L, 0, none⟩)) ∧ ρ.k l = some r ∧ w.heap[L]? = some (.loop { r with state := st, pending := ll pd }) ∧
  (∀ st' pd', aB ρ B w0 ls (hp.set l ⟨b, ty, .bW st' pd'⟩) (w.putObj L (.loop { r with state := st', pending := ll pd' }))) ∧ ∀ o, aB ρ B w0 ls (hp.set l ⟨b, ty, .dead⟩) (w.putObj L o) := by
 obtain ⟨hb, L, r, h1, h2, h3, h4⟩ := hh.bA l _ hl
 have hb : b = true := hb
 subst hb
 have hlt : L < w.heap.size := (Array.getElem?_eq_some_iff.1 h4).1
 refine ⟨L, r, h1, h2, h4, fun st' pd' => ?_, fun o => ?_⟩
 ·exact hh.lY hl rfl (mH w L _) (.inr ⟨_, rfl, .inl (by rw [h1]; rfl)⟩) ⟨rfl, L, r, h1, h2, h3, World.putObj_heap_same hlt⟩
 ·exact hh.lY hl rfl (mH w L _) (.inr ⟨_, rfl, .inl (by rw [h1]; rfl)⟩) trivial
theorem xm {ls : Ls} {a : Act} : ∀ {ps : List Tmp} {vs : List SV} {us : List Value} {tm tm' : aw} {t : Array Value}, tL tm ps vs = some tm' → aX ρ ls tm { tmps := t, defers := [] } → ai (RV ρ ls) vs us →
 aX ρ ls tm' { tmps := (ps.zip us).foldl (fun t (p, v) => t.setIfInBounds p v) t, defers := [] }
 | [], [], [], tm, tm', t, h, hr, _ => by cases h; exact hr
 | p :: ps, v :: vs, u :: us, tm, tm', t, h, hr, hv => by
  simp only [tL] at h
  simp only [List.zip_cons_cons, List.foldl_cons]
  exact xm (a := a) h (hr.put (some p) (a6 hv.1)) hv.2
 | [], _ :: _, _, _, _, _, h, _, _ => by cases h
 | _ :: _, [], _, _, _, _, h, _, _ => by cases h
 | [], [], _ :: _, _, _, _, _, _, hv => hv.elim
 | _ :: _, _ :: _, [], _, _, _, _, _, hv => hv.elim
theorem tM : ∀ {ps : List Tmp} {vs : List SV} {tm tm' : aw}, tL tm ps vs = some tm' → ps.length = vs.length
 | [], [], _, _, _ => rfl
 | p :: ps, v :: vs, tm, tm', h => by simp only [tL] at h; simp [tM h]
 | [], _ :: _, _, _, h => by cases h
 | _ :: _, [], _, _, h => by cases h
theorem cC {fn0 : Func} {R0 : Ending → World → Prop} {ls : Ls} {l : Nat} {ps : Array Tmp} {fE body : Code} {tm : aw} : ∀ {K : List Fr} {r : Option Nat} {Q : Exit → Act → World → Prop}, aF P B w0 fn0 R0 ρ ls r K Q → xn l K = some (ps, fE, body, tm) →
 ∃ rec a', ρ.k l = some rec ∧ rec.params = ps ∧ rec.assign = fE ∧ rec.body = body ∧ rec.tmps = a'.tmps ∧ aX ρ ls tm a'
 | [], _, _, _, h => by cases h
 | .seq _ :: _, _, _, ⟨Q', k, _⟩, h => cC k h
 | .ji _ :: _, _, _, ⟨Q', k, _⟩, h => cC k h
 | .lp _ _ :: _, _, _, ⟨Q', k, _⟩, h => cC k h
 | .xX :: _, _, _, ⟨Q', k, _⟩, h => cC k h
 | .inv .. :: _, _, _, ⟨Q', _, _, _, k, _⟩, h => cC k h
 | .act .. :: _, _, _, ⟨_, Q', _, _, _, k, _⟩, h => cC k h
 | .pc .. :: _, _, _, ⟨_, Q', _, _, _, _, k, _⟩, h => cC k h
 | .pm .. :: _, _, _, ⟨_, Q', _, _, _, _, k, _⟩, h => cC k h
 | .oP _ _ l' .. :: _, _, _, ⟨_, Q', _, a', _, L, rec, k, _, _, _, k4, _, k6, k7, k8, k9, k10, _⟩, h => by
  simp only [xn] at h
  split at h
  ·rename_i he
   cases h
   have he := Nat.eq_of_beq_eq_true he
   subst he
   exact ⟨rec, a', k6, k7, k8, k9, k10, k4⟩
  ·exact cC k h
 | .fE .. :: _, _, _, ⟨Q', _, k, _⟩, h => cC k h
 | .sJ .. :: _, _, _, ⟨Q', _, _, _, _, k, _⟩, h => cC k h
theorem aX.tmps {ls : Ls} {tm : aw} {a a' : Act} (h : aX ρ ls tm a) (e : a'.tmps = a.tmps) : aX ρ ls tm a' := by
 unfold aX at *
 rw [e]; exact h
theorem xp : ∀ {a b : List Nat}, tN a b = true → a = b
 | [], [], _ => rfl
 | a :: r, b :: s, h => by
  simp only [tN, Bool.and_eq_true] at h
  rw [Nat.eq_of_beq_eq_true h.1, xp h.2]
 | [], _ :: _, h => by cases h
 | _ :: _, [], h => by cases h
theorem tO : ∀ {a : List (Nat × Nat)}, mF a a = true
 | [] => rfl
 | a :: r => by simp only [mF, Bool.and_eq_true]; exact ⟨Nat.beq_refl a.1, tO⟩
theorem CN {ps : Array Tmp} {us : Array Value} {t : Array Value} : (ps.zip us).foldl (fun t (p, v) => t.setIfInBounds p v) t = (ps.toList.zip us.toList).foldl (fun t (p, v) => t.setIfInBounds p v) t := by
 rw [← Array.foldl_toList, Array.toList_zip]
theorem Fz {L : ba} {h s : St} {mv : List (Nat × Nat)} {A : List E} {F : Fm} {ds : List Deferred} {ρ0 : Env} {ls0 ls : Ls} {a : Act} {w : World} {Lf : Env → SV → SH → Prop} (hb : FA L h mv A s = some F) (hF : F.holds Lf ρ)
 (hM0 : bR (cB h.hp.length mv) L.m ρ0 ρ ls0 ls) (hmv : mv.all (ec h.hp) = true) (htm : h.tm.av (fun _ => true) (L.m + L.k) = true) (hhp : h.hp.all (HE.av (fun _ => true) (L.m + L.k)) = true) (hA : A.all (E.eB L.m) = true)
 (hr : aX ρ ls s.tm a) (hd : a.defers = ds) (hh : aB ρ B w0 ls s.hp w) : ∃ n', n' < jF L A ρ ∧ Iy B w0 L h mv A ds ρ0 ls0 n' a w := by
 unfold FA at hb
 split at hb
 ·rename_i t u mv' ht hu
  split at hb
  ·rename_i hc
   simp only [Bool.and_eq_true] at hc
   have hl := Nat.eq_of_beq_eq_true hc.2
   split at hb
   ·rename_i bg hi
    cases hb
    obtain ⟨ho, hp, h1, h2⟩ := Bn hF
    refine ⟨_, ?_, Bs hM0 hc.1 hmv hl hi ho htm hhp hA hp hr hd hh⟩
    have e := Br hA hM0.ag hl
    unfold jF
    rw [e]
    have h1 : (ρ.f L.yV (ev ρ (aL (A ++ (t ++ u)))).l).i < (ρ.f L.yV (ev ρ (rl L A)).l).i := h1
    have h2 : 0 < (ρ.f L.yV (ev ρ (rl L A)).l).i := h2
    have ef : (ρ0.cV L.m ((t ++ u).map fun e => (ev ρ e).x)).f = ρ.f := hM0.ag.f.symm
    rw [ef]
    omega
   ·cases hb
  ·cases hb
 ·cases hb
theorem xq {F : Fence} {pd : Option (Option Nat)} {Q : Exit → Act → World → Prop} {a : Act} {w : World} {r : Option Nat} (h : Jz P r Q a w (match pd with | none => .rm | some none => .code .ret | some (some id) => .code (.exit id))) :
 (match ll pd with | none => Q .normal a w | some c => c.wpIn (dD r) 0 P Q a w) := by
 match pd with
 | none => exact h
 | some none => exact h
 | some (some id) => exact h
def gS (P : Program) (cf : a8) (rec : Rec) : Prop := ∀ (ρ : Env), aP P ρ cf → ∀ (f0 : FuncId) (fn0 : Func) (R0 : Ending → World → Prop) (B : Nat) (w0 : World) (ctl : On) (K : List Fr) (s : St) (df : List Nat) (rd : Option Nat) (ls : Ls) (a : Act) (w : World) (Q : Exit → Act → World → Prop) (ds : List Deferred) (r : Option Nat),
 aF P B w0 fn0 R0 ρ ls r K Q → oc ls rd r → aX ρ ls s.tm a → jg ls df ds → a.defers = ds → aB ρ B w0 ls s.hp w → (∀ e ∈ s.neg, al ρ e = false) → (rec f0 fn0 ctl K s df rd).holds (fun ρ => bk ρ B w0 R0) ρ → Jz P r Q a w ctl
theorem nH {ρ : Env} {ls : Ls} {tm : aw} {a : Act} {e e' : E} {lo : Int} {n : Nat} (hr : aX ρ ls tm a) (h : rB tm e = some (e', lo, n)) : e' = e ∧ lo ≤ aa ρ e ∧ aa ρ e < lo + n := by
 unfold rB at h
 split at h
 ·rename_i lo' hi hrg0
  have : lo' ≤ aa ρ e ∧ aa ρ e ≤ hi := by
   split at hrg0
   ·rename_i r hs
    cases hrg0
    unfold NL at hs
    split at hs
    ·rename_i e0 m
     split at hs
     ·rename_i hm
      cases hs
      have h1 : 0 ≤ aa ρ e0 % m := Int.emod_nonneg _ (by omega)
      have h2 : aa ρ e0 % m < m := Int.emod_lt_of_pos _ hm
      exact ⟨h1, by show aa ρ e0 % m ≤ m - 1; omega⟩
     ·cases hs
    ·cases hs
   ·rename_i hs
    have := kb (a := a) hr (Nat.le_refl _) hrg0
    simpa using this
  split at h
  ·cases h
   exact ⟨rfl, this.1, by omega⟩
  ·cases h
 ·cases h
theorem kf {R : Env → SV → SH → Prop} {g : E → Fm} {e : E} {ρ : Env} : ∀ {n : Nat} {lo : Int}, (rC g e lo n).holds R ρ → lo ≤ aa ρ e → aa ρ e < lo + n → ∃ m : Int, al ρ (.eq e (.ic m)) = true ∧ (g (.eq e (.ic m))).holds R ρ
 | 0, lo, _, h1, h2 => by omega
 | n + 1, lo, h, h1, h2 => by
  obtain ⟨k1, k2⟩ := h
  by_cases he : aa ρ e = lo
  ·have hb : al ρ (.eq e (.ic lo)) = true := decide_eq_true he
   exact ⟨lo, hb, k1 ((bC ρ _).2 hb)⟩
  ·exact kf k2 (by omega) (by omega)
theorem CO {cf : a8} {ρ : Env} {ls : Ls} {tm : aw} {a : Act} {key : List Nat} {e : E} {lo : Int} {n : Nat} (hr : aX ρ ls tm a) (h : zw cf tm key = some (e, lo, n)) : lo ≤ aa ρ e ∧ aa ρ e < lo + n := by
 unfold zw at h
 split at h
 ·split at h
  ·split at h
   ·split at h
    ·obtain ⟨rfl, h1⟩ := nH hr h; exact h1
    ·cases h
   ·cases h
  ·cases h
 ·cases h
set_option maxHeartbeats 2000000 in
theorem xr {rec : Rec} (ih00 : gS P cf rec) {ρ : Env} (hc : aP P ρ cf) {sm : Sm} (hsm : fS P ρ sm) {c : Code} {f0 : FuncId} {fn0 : Func} {R0 : Ending → World → Prop} {B : Nat} {w0 : World} {K : List Fr} {s : St} {df : List Nat} {rd : Option Nat} {ls : Ls} {a : Act} {w : World} {Q : Exit → Act → World → Prop} {ds : List Deferred} {r : Option Nat}
 (hk : aF P B w0 fn0 R0 ρ ls r K Q) (hrd : oc ls rd r) (hr : aX ρ ls s.tm a) (hdf : jg ls df ds) (hd : a.defers = ds) (hh : aB ρ B w0 ls s.hp w) (hn : ∀ e ∈ s.neg, al ρ e = false) (h : (rD P cf sm rec f0 fn0 c K s df rd).holds (fun ρ => bk ρ B w0 R0) ρ) : c.wpIn (dD r) 0 P Q a w := by
 have ih := ih00 ρ hc f0 fn0 R0 B w0
 unfold rD at h
 cases c <;> simp only at h <;> try (exact h.elim)
 case skip => exact wpIn_skip (ih .rm K s df rd ls a w Q ds r hk hrd hr hdf hd hh hn h)
 case label l => exact wpIn_label (ih .rm K s df rd ls a w Q ds r hk hrd hr hdf hd hh hn h)
 case seq x y => exact wpIn_seq (ih (.code x) (.seq y :: K) s df rd ls a w _ ds r ⟨Q, hk, rfl⟩ hrd hr hdf hd hh hn h)
 case block id c =>
  split at h
  ·rename_i e lo n hs
   obtain ⟨h1, h2⟩ := CO hr hs
   obtain ⟨m, hb, hm⟩ := kf h h1 h2
   obtain ⟨g1, g2⟩ := cu hb hn hr hh
   exact wpIn_block (ih (.code c) (.ji id :: K) (bf (.eq e (.ic m)) s) df rd ls a w _ ds r ⟨Q, hk, rfl⟩ hrd g1 hdf hd g2 (bX hb hn) hm)
  ·exact wpIn_block (ih (.code c) (.ji id :: K) s df rd ls a w _ ds r ⟨Q, hk, rfl⟩ hrd hr hdf hd hh hn h)
 case loop c =>
  split at h
  ·exact wpIn_loop_rounds 201 (ih (.code c) (.lp c 200 :: K) s df rd ls a w _ ds r ⟨Q, hk, rfl⟩ hrd hr hdf hd hh hn h)
  ·split at h
   ·exact h.elim
   rename_i L hL
   split at h
   ·exact h.elim
   ·rename_i d hhd
    split at h
    ·exact h.elim
    ·rename_i bg hi
     split at h
     ·rename_i dZ
      simp only [FB, Bool.and_eq_true] at dZ
      obtain ⟨⟨⟨⟨⟨⟨⟨⟨o1, o2⟩, o3⟩, o4⟩, o5⟩, o6⟩, o7⟩, o8⟩, o9⟩ := dZ
      have o1 := Nat.eq_of_beq_eq_true o1
      obtain ⟨ho, hp0, hall⟩ := Bn h
      obtain ⟨p1, p2, p3⟩ := CL hhd
      obtain ⟨ls1, e1, hr1, hh1⟩ := od p1 hr hh
      have hI := Bs (ds := ds) (ρ := ρ) (ρ0 := ρ) (ls0 := ls1) (ls := ls1) (s := d.s1) ⟨Agree.refl _ _, fun _ _ => rfl, fun _ _ => rfl⟩ tO o4 o1 hi ho o5 o6 o2 hp0 hr1 hd hh1
      refine xe (Iy B w0 L d.h d.mv d.A ds ρ ls1) hI fun n' a1 w1 hInv => ?_
      obtain ⟨ys, ls', hl, hM, hr', hd', hh', hpre, hn'⟩ := hInv
      subst hn'
      have hb := mE hr' hh' (Bo hall ys hl) hpre
      have hlen : d.h.hp.length ≤ ls'.length := by rw [hh'.len]; exact Nat.le_refl _
      refine ih00 (ρ.cV L.m ys) (hc.nT _) f0 fn0 R0 B w0 (.code c) (.inv L d.h d.mv d.A df :: rn L d K) d.h df rd ls' a1 w1 _ ds r ⟨Q, ρ, ls1, ds, aF.move hM hlen o7 (hk.rn.ext e1), hM, hlen, (hdf.ext e1).move hM.ls o8, o8, o4, o5, o6, o2, rfl⟩ ((hrd.ext e1).move hM.ls o9) hr' ((hdf.ext e1).move hM.ls o8) hd' hh' ?_ hb
      intro e he
      have hbl := List.all_eq_true.1 o3 e he
      rw [p3] at he
      unfold al
      rw [aC hM.ag hbl]
      exact hn e (List.mem_filter.1 he).1
     ·exact h.elim
 case scope c => exact kB (ih (.code c) (.xX :: K) s df rd ls a w _ ds r ⟨Q, hk, rfl⟩ hrd hr hdf hd hh hn h)
 case exit id => exact wpIn_exit (ih (.ex id) K s df rd ls a w Q ds r hk hrd hr hdf hd hh hn h)
 case ret => exact wpIn_ret (ih .ret K s df rd ls a w Q ds r hk hrd hr hdf hd hh hn h)
 case cond c x y =>
  split at h
  ·rename_i e he
   have hev : a.eval c = .bool (al ρ e) := aj he hr (G := .bc true) rfl
   split at h
   ·rename_i ht
    rw [bJ ht] at hev
    exact wpIn_cond_true hev (ih (.code x) K s df rd ls a w Q ds r hk hrd hr hdf hd hh hn h)
   ·split at h
    ·rename_i hf
     have : al ρ e = false := by cases e <;> simp_all [Om, al, ev, dB, xB]
     rw [this] at hev
     exact wpIn_cond_false hev (ih (.code y) K s df rd ls a w Q ds r hk hrd hr hdf hd hh hn h)
    ·split at h
     ·rename_i tx ty hx hy
      have lx := xd hx
      have ly := xd hy
      have hlen := hr.1
      cases hb : al ρ e
      ·rw [hb] at hev
       refine wpIn_cond_false hev (Bl hc hy hr hd hh fun a' w' hr' hd' hh' => ?_)
       refine ih .rm K ⟨vo e tx ty, s.hp, s.neg⟩ df rd ls a' w' Q ds r hk hrd (tG ⟨(fun h' => by rw [hb] at h'; cases h'), fun _ => hr'⟩ (by have := hr'.1; omega) hr'.1) hdf hd' hh' hn h
      ·rw [hb] at hev
       refine wpIn_cond_true hev (Bl hc hx hr hd hh fun a' w' hr' hd' hh' => ?_)
       refine ih .rm K ⟨vo e tx ty, s.hp, s.neg⟩ df rd ls a' w' Q ds r hk hrd (tG ⟨fun _ => hr', (fun h' => by rw [hb] at h'; cases h')⟩ hr'.1 (by have := hr'.1; omega)) hdf hd' hh' hn h
     ·obtain ⟨h1, h2⟩ := h
      cases hb : al ρ e
      ·rw [hb] at hev
       have hne : al ρ (bp e) = true := by rw [jE, hb]; rfl
       obtain ⟨g1, g2⟩ := cu hne hn hr hh
       exact wpIn_cond_false hev (ih (.code y) K (bf (bp e) s) df rd ls a w Q ds r hk hrd g1 hdf hd g2 (bX hne hn) (h2 ((bC ρ _).2 hne)))
      ·rw [hb] at hev
       obtain ⟨g1, g2⟩ := cu hb hn hr hh
       exact wpIn_cond_true hev (ih (.code x) K (bf e s) df rd ls a w Q ds r hk hrd g1 hdf hd g2 (bX hb hn) (h1 ((bC ρ _).2 hb)))
  ·exact h.elim
 case region id ops d =>
  cases d with
  | false => exact wpIn_region_list (ih (.ops (false, ops) ops.toList) K s df rd ls a w Q ds r hk hrd hr hdf hd hh hn h)
  | true =>
   have h0 := ih (.ops (true, ops) ops.toList) K s df rd ls a { w with drawn := w.drawn + 1 } Q ds r hk hrd hr hdf hd (hh.drawn _) hn h 0 (Nat.zero_le _) rfl
   refine wpIn_region_any hc.mixed ?_
   rw [zj] at h0
   exact h0
 case rangeFunc g ps fE body =>
  split at h
  ·rename_i f cap hg
   obtain ⟨fs, cs, he, q1, q2⟩ := aj hg hr (G := .bc true) rfl
   have hfs : fs = [] := by cases fs with | nil => rfl | cons _ _ => exact q1.elim
   subst hfs
   split at h
   ·rename_i fn hfn
    split at h
    ·rename_i c hbody
     obtain ⟨f1, f2⟩ := hc.fns _ _ hfn
     have eg : ∀ args w, (callFunc f args).run P w = .ok (.enter f args) w := fun args w => bd f1 (by rw [hbody]; rfl) f2 w
     split at h
     ·-- an outermost one
      have hr0 : r = none := hrd
      subst hr0
      refine wpIn_rangeFunc fun fn' _ => ?_
      obtain ⟨rec, hrec⟩ : ∃ rec : Loop, rec = { state := .ready, pending := none, fn := fn', tmps := a.tmps, params := ps, assign := fE, body := body, defers := w.heap.size } := ⟨_, rfl⟩
      refine ⟨w.heap.size + 1, [{ target := .collected w.heap.size, args := #[] }], (w.alloc (.deferred (some []))).alloc (.loop rec), { target := .fn (.func f) cs.toArray, args := #[.func (.yield (w.heap.size + 1)) #[] #[]] }, (w.alloc (.deferred (some []))).alloc (.loop rec), f,
       #[.func (.yield (w.heap.size + 1)) #[] #[]] ++ cs.toArray, (w.alloc (.deferred (some []))).alloc (.loop rec), (by rw [hrec]; exact run_enterLoop_outer _ _ _ _ _), ?_, fun _ _ => trivial, ?_, (fun e => by cases e), ?_⟩
      ·simp only [resolve, he]
       simp [go_sem]
      ·simp [invoke, go_sem, eg]
      ·have hlen := hh.len
       have hmk : aB ρ B w0 (ls ++ [.pointer (some ⟨w.heap.size, 0, none⟩)]) (s.hp ++ [⟨true, 0, .mark⟩]) (w.alloc (.deferred (some []))) :=
        hh.push (World.grownBy_alloc w _ none) ⟨rfl, w.heap.size, by simp, hh.size, heap_alloc_new w _⟩ (fun b e => by cases e.ptr; exact Nat.le_refl _)
       have hsz : (w.alloc (.deferred (some []))).heap.size = w.heap.size + 1 := World.size_alloc w _
       have hlr : aB (ρ.wk (wP ρ.k (s.hp.length + 1) rec)) B w0 (ls ++ [.pointer (some ⟨w.heap.size, 0, none⟩)] ++ [.pointer (some ⟨w.heap.size + 1, 0, none⟩)]) (s.hp ++ [⟨true, 0, .mark⟩] ++ [⟨true, 0, .bW .ready none⟩]) ((w.alloc (.deferred (some []))).alloc (.loop rec)) := by
        refine (hmk.wk fun i hi => ?_).push (World.grownBy_alloc _ _ none) ⟨rfl, w.heap.size + 1, rec, ?_, ?_, ?_, ?_⟩ (fun b e => by cases e.ptr; rw [hsz]; exact Nat.le_refl _)
        ·show (if i = s.hp.length + 1 then _ else _) = _
         rw [if_neg (by simp at hi; omega)]
        ·simp
        ·show (if _ = s.hp.length + 1 then some rec else _) = _
         rw [if_pos (by simp [hlen])]
        ·have := hh.size; omega
        ·have := heap_alloc_new (w.alloc (.deferred (some []))) (.loop rec)
         rw [hsz] at this
         rw [this, hrec]; rfl
       have e1 : Ext ls (ls ++ [.pointer (some ⟨w.heap.size, 0, none⟩)] ++ [.pointer (some ⟨w.heap.size + 1, 0, none⟩)]) := (Ext.snoc ls _).trans (Ext.snoc _ _)
       have hl1 : (ls ++ [Value.pointer (some ⟨w.heap.size, 0, none⟩)] ++ [.pointer (some ⟨w.heap.size + 1, 0, none⟩)])[s.hp.length + 1]? = some (.pointer (some ⟨w.heap.size + 1, 0, none⟩)) := by rw [← hlen]; simp
       have hl0 : (ls ++ [Value.pointer (some ⟨w.heap.size, 0, none⟩)] ++ [.pointer (some ⟨w.heap.size + 1, 0, none⟩)])[s.hp.length]? = some (.pointer (some ⟨w.heap.size, 0, none⟩)) := by rw [← hlen]; simp
       refine jx.2 (callsIn_wide (n := 0).1 (callsIn_of_wp_marks f1 hbody trivial ?_))
       have hC : aF P B w0 fn0 R0 (ρ.wk (wP ρ.k (s.hp.length + 1) rec)) (ls ++ [.pointer (some ⟨w.heap.size, 0, none⟩)] ++ [.pointer (some ⟨w.heap.size + 1, 0, none⟩)]) none K Q := by
        refine aF.ext (Ext.snoc _ _) (aF.wk (fun i hi => ?_) (hk.ext (Ext.snoc ls _)))
        show (if i = s.hp.length + 1 then _ else _) = _
        rw [if_neg (by simp at hi; omega)]
       refine ih00 (ρ.wk (wP ρ.k (s.hp.length + 1) rec)) (hc.wk _) f0 fn0 R0 B w0 (.code c) (.oP f fn (s.hp.length + 1) ps fE body s.tm (s.hp.length :: df) none :: K) _ [] none _ _ _ _ [] none
        ⟨rfl, Q, none, { a with defers := [{ target := .collected w.heap.size, args := #[] }] ++ a.defers }, { target := .collected w.heap.size, args := #[] } :: ds, w.heap.size + 1, rec, hC, rfl, ⟨⟨_, hl0, rfl⟩, hdf.ext e1⟩, by rw [← hd]; rfl, aX.tmps (nF.2 (hr.ext e1)) rfl, hl1, ?_, by rw [hrec], by rw [hrec], by rw [hrec], by rw [hrec], rfl⟩ rfl (fa (us := [Value.func (.yield (w.heap.size + 1)) #[] #[]] ++ cs) ?_ (by simp)) trivial rfl hlr (fun e he => by rw [qv]; exact hn e he) (fb _ h)
       ·show (if _ = s.hp.length + 1 then some rec else _) = _
        rw [if_pos rfl]
       ·have q2' := fF (ρ := ρ.wk (wP ρ.k (s.hp.length + 1) rec)) (ai.mono (fun _ _ => RP.ext e1) q2)
        exact ⟨⟨_, hl1, rfl⟩, q2'⟩
     ·-- one within a round
      rename_i l0
      obtain ⟨L0, hL0, hr0⟩ := hrd
      subst hr0
      split at h
      ·rename_i x hx
       obtain ⟨b0, ty0, st0, pd0⟩ := x
       obtain ⟨L0', rec0, g1, _, g3, _, _⟩ := hh.bW (dK hx)
       rw [hL0] at g1
       cases g1
       refine wpIn_rangeFunc fun fn' _ => ?_
       obtain ⟨rec, hrec⟩ : ∃ rec : Loop, rec = { state := .ready, pending := none, fn := fn', tmps := a.tmps, params := ps, assign := fE, body := body, defers := rec0.defers } := ⟨_, rfl⟩
       refine ⟨w.heap.size, [], w.alloc (.loop rec), { target := .fn (.func f) cs.toArray, args := #[.func (.yield w.heap.size) #[] #[]] }, w.alloc (.loop rec), f,
        #[.func (.yield w.heap.size) #[] #[]] ++ cs.toArray, w.alloc (.loop rec), (by rw [hrec]; exact run_enterLoop_inner g3 _ _ _ _ _), ?_, fun _ _ => trivial, ?_, (fun e => by cases e), ?_⟩
       ·simp only [resolve, he]
        simp [go_sem]
       ·simp [invoke, go_sem, eg]
       ·have hlen := hh.len
        have hlr : aB (ρ.wk (wP ρ.k s.hp.length rec)) B w0 (ls ++ [.pointer (some ⟨w.heap.size, 0, none⟩)]) (s.hp ++ [⟨true, 0, .bW .ready none⟩]) (w.alloc (.loop rec)) := by
         refine (hh.wk fun i hi => ?_).push (World.grownBy_alloc _ _ none) ⟨rfl, w.heap.size, rec, ?_, ?_, ?_, ?_⟩ (fun b e => by cases e.ptr; exact Nat.le_refl _)
         ·show (if i = s.hp.length then _ else _) = _
          rw [if_neg (by omega)]
         ·simp
         ·show (if _ = s.hp.length then some rec else _) = _
          rw [if_pos (by simp [hlen])]
         ·exact hh.size
         ·rw [heap_alloc_new w, hrec]; rfl
        have e1 : Ext ls (ls ++ [.pointer (some ⟨w.heap.size, 0, none⟩)]) := Ext.snoc ls _
        have hl1 : (ls ++ [Value.pointer (some ⟨w.heap.size, 0, none⟩)])[s.hp.length]? = some (.pointer (some ⟨w.heap.size, 0, none⟩)) := by rw [← hlen]; simp
        refine jx.2 (callsIn_wide (n := 0).1 (callsIn_of_wp_marks f1 hbody trivial ?_))
        have hC : aF P B w0 fn0 R0 (ρ.wk (wP ρ.k s.hp.length rec)) (ls ++ [.pointer (some ⟨w.heap.size, 0, none⟩)]) (some L0) K Q := by
         refine aF.ext (Ext.snoc _ _) (aF.wk (fun i hi => ?_) hk)
         show (if i = s.hp.length then _ else _) = _
         rw [if_neg (by omega)]
        refine ih00 (ρ.wk (wP ρ.k s.hp.length rec)) (hc.wk _) f0 fn0 R0 B w0 (.code c) (.oP f fn s.hp.length ps fE body s.tm df (some l0) :: K) _ [] none _ _ _ _ [] none
         ⟨rfl, Q, some L0, { a with defers := [] ++ a.defers }, ds, w.heap.size, rec, hC, ⟨L0, e1 _ _ hL0, rfl⟩, hdf.ext e1, by rw [← hd]; rfl, aX.tmps (nF.2 (hr.ext e1)) rfl, hl1, ?_, by rw [hrec], by rw [hrec], by rw [hrec], by rw [hrec], rfl⟩ rfl (fa (us := [Value.func (.yield w.heap.size) #[] #[]] ++ cs) ?_ (by simp)) trivial rfl hlr (fun e he => by rw [qv]; exact hn e he) (fb _ h)
        ·show (if _ = s.hp.length then some rec else _) = _
         rw [if_pos rfl]
        ·have q2' := fF (ρ := ρ.wk (wP ρ.k s.hp.length rec)) (ai.mono (fun _ _ => RP.ext e1) q2)
         exact ⟨⟨_, hl1, rfl⟩, q2'⟩
      ·exact h.elim
    ·exact h.elim
   ·exact h.elim
  ·exact h.elim
theorem FC {tm : aw} {hp : SH} {G : E} {o : Oper} {l : Nat} {ty : TypeId} {x p : E} {hi : Int} (h : FD tm hp G o = some (l, ty, x, p, hi)) : ∃ xo, o.op = .next xo true ∧ cA tm G xo = some (.c (.ptr l 0)) ∧ hp[l]? = some ⟨true, ty, .iter x p hi⟩ := by
 unfold FD at h
 split at h
 ·rename_i xo ho
  split at h
  ·rename_i l' hx
   split at h
   ·rename_i hl
    cases h
    exact ⟨xo, ho, hx, hl⟩
   ·cases h
  ·cases h
 ·cases h
set_option maxHeartbeats 2000000 in
theorem oe {rec : Rec} (ih00 : gS P cf rec) {ρ : Env} (hc : aP P ρ cf) {sm : Sm} (hsm : fS P ρ sm) {all : Bool × Array Oper} {l1 : List Oper} {f0 : FuncId} {fn0 : Func} {R0 : Ending → World → Prop} {B : Nat} {w0 : World} {K : List Fr} {s : St} {df : List Nat} {rd : Option Nat} {ls : Ls} {a : Act} {w : World} {Q : Exit → Act → World → Prop} {ds : List Deferred} {r : Option Nat}
 (hk : aF P B w0 fn0 R0 ρ ls r K Q) (hrd : oc ls rd r) (hr : aX ρ ls s.tm a) (hdf : jg ls df ds) (hd : a.defers = ds) (hh : aB ρ B w0 ls s.hp w) (hn : ∀ e ∈ s.neg, al ρ e = false) (h : (mI P cf sm rec f0 fn0 all l1 K s df rd).holds (fun ρ => bk ρ B w0 R0) ρ) : dh r P all Q l1 a w := by
 have ih := ih00 ρ hc f0 fn0 R0 B w0
 unfold mI at h
 cases l1 with
 | nil =>
  exact zk (ih .rm K s df rd ls a w Q ds r hk hrd hr hdf hd hh hn h)
 | cons o rest =>
  simp only at h
  split at h
  rotate_left
  ·exact h.elim
  rename_i hB
  split at h
  ·exact h.elim
  ·rename_i hg
   have hwd := bF hg hr hn
   exact qX hB hwd (ih (.ops all rest) K ⟨bB s.tm o.dst oO, s.hp, s.neg⟩ df rd ls (a.put o.dst undef) w Q ds r hk hrd (hr.put _ lB) hdf (aW hd _ _) hh hn h)
  ·rename_i Gd hg
   have hwd := bF hg hr hn
   have hskip : al ρ Gd = false → dh r P all Q rest (a.put o.dst undef) w → dh r P all Q (o :: rest) a w := fun hf hx => qX hB (hwd.trans hf) hx
   split at h
   ·rename_i v ow hv
    obtain ⟨p1, p2⟩ := qY h
    cases hGd : al ρ Gd
    ·exact hskip hGd (ih (.ops all rest) K ⟨bB s.tm o.dst ⟨Gd, nz s.neg v⟩, s.hp, s.neg⟩ df rd ls (a.put o.dst undef) w Q ds r hk hrd (hr.put _ ⟨(fun e => by rw [show al ρ Gd = true from e] at hGd; cases hGd), fun _ => rfl⟩) hdf (aW hd _ _) hh hn p2)
    ·have hu := vw hsm hv hc (p1 hGd) hr hGd hh
     refine nZ hB (hwd.trans hGd) (qV hu hh fun z w' hz hw' => ?_)
     exact ih (.ops all rest) K ⟨bB s.tm o.dst ⟨Gd, nz s.neg v⟩, s.hp, s.neg⟩ df rd ls (a.put o.dst z) w' Q ds r hk hrd (hr.put _ ⟨fun _ => mz hn hz, (fun e => by rw [show al ρ Gd = false from e] at hGd; cases hGd)⟩) hdf (aW hd _ _) hw' hn p2
   ·split at h
    ·rename_i hT
     have hGd : al ρ Gd = true := bJ hT
     refine nZ hB (hwd.trans hGd) ?_
     split at h
     ·rename_i v hp' he
      obtain ⟨ls', w', e1, e2, e3⟩ := mB (P := P) (w := w) he hr hGd hh
      rcases e3 with ⟨s', z, hs, hrun, hz⟩ | ⟨hs, _⟩
      ·cases hs
       refine dE hrun ?_
       exact ih (.ops all rest) K ⟨bB s.tm o.dst ⟨.bc true, v⟩, hp', s.neg⟩ df rd ls' (a.put o.dst z) w' Q ds r (hk.ext e1) (hrd.ext e1) ((hr.ext e1).put _ (a6 hz)) (hdf.ext e1) (aW hd _ _) e2 hn h
      ·cases hs
     ·rename_i hp' he
      obtain ⟨ls', w', e1, e2, e3⟩ := mB (P := P) (w := w) he hr hGd hh
      rcases e3 with ⟨s', z, hs, _⟩ | ⟨_, hrun⟩
      ·cases hs
      ·refine nA hrun ?_
       exact ih (.ops all rest) K ⟨bB s.tm o.dst oO, hp', s.neg⟩ df rd ls' (a.put o.dst undef) w' Q ds r (hk.ext e1) (hrd.ext e1) ((hr.ext e1).put _ lB) (hdf.ext e1) (aW hd _ _) e2 hn h
     ·split at h
      ·rename_i v hp' ow hx
       obtain ⟨p1, p2⟩ := qY h
       have hu := FE (P := P) (w := w) hx hc (p1 hGd) hr hGd hh
       refine gy.wp (K := dh r P all Q rest) ?_
       refine gy.mono (fun z w' hz => ?_) hu
       obtain ⟨ls', e1, e2, e3⟩ := hz
       exact ih (.ops all rest) K ⟨bB s.tm o.dst ⟨.bc true, v⟩, hp', s.neg⟩ df rd ls' (a.put o.dst z) w' Q ds r (hk.ext e1) (hrd.ext e1) ((hr.ext e1).put _ (a6 e3)) (hdf.ext e1) (aW hd _ _) e2 hn p2
      ·split at h
       ·rename_i n b hnc
        obtain ⟨q1, q2⟩ := h
        rcases CP hnc hr hGd hh with ⟨hrun, hz⟩ | hrun
        ·refine dE hrun ?_
         exact ih (.ops all rest) K ⟨bB s.tm o.dst ⟨.bc true, .c (.bool (.bc b))⟩, s.hp, s.neg⟩ df rd ls (a.put o.dst (.bool b)) w Q ds r hk hrd (hr.put _ (a6 rfl)) hdf (aW hd _ _) hh hn (q1 hz)
        ·refine dE hrun ?_
         exact ih (.ops all rest) K ⟨bB s.tm o.dst ⟨.bc true, .c (.bool (.bc (!b)))⟩, s.hp, s.neg⟩ df rd ls (a.put o.dst (.bool (!b))) w Q ds r hk hrd (hr.put _ (a6 rfl)) hdf (aW hd _ _) hh hn q2
       ·split at h
        ·rename_i l ty x p hi hnx
         obtain ⟨q1, q2⟩ := h
         obtain ⟨xo, hop, hx, hl⟩ := FC hnx
         obtain ⟨n1, n2⟩ := Iz (P := P) (ty' := o.type) hl hh (aj hx hr hGd)
         by_cases hlt : aa ρ p < aa ρ x
         ·obtain ⟨z, w', r1, r2, r3⟩ := n1 hlt
          have hrun : (execOp a.eval o).run P w = .ok (.value z) w' := by
           simp only [execOp, hop, Sem.run_bind, r1, Result.andThen_ok, Sem.run_pure]
          refine dE hrun ?_
          exact ih (.ops all rest) K ⟨bB s.tm o.dst ⟨.bc true, FF x p hi⟩, s.hp.set l ⟨true, ty, .iter x (.add p (.EC x p)) hi⟩, s.neg⟩ df rd ls (a.put o.dst z) w' Q ds r hk hrd (hr.put _ (a6 r3)) hdf (aW hd _ _) r2 hn (q1 ((bC ρ _).2 (decide_eq_true hlt)))
         ·obtain ⟨z, r1, r3⟩ := n2 hlt
          have hrun : (execOp a.eval o).run P w = .ok (.value z) w := by
           simp only [execOp, hop, Sem.run_bind, r1, Result.andThen_ok, Sem.run_pure]
          refine dE hrun ?_
          refine ih (.ops all rest) K ⟨bB s.tm o.dst ⟨.bc true, FG⟩, s.hp, s.neg⟩ df rd ls (a.put o.dst z) w Q ds r hk hrd (hr.put _ (a6 r3)) hdf (aW hd _ _) hh hn (q2 ((bC ρ _).2 ?_))
          have q : al ρ (bp (.lt p x)) = !al ρ (.lt p x) := bV ρ _
          exact q.trans (by rw [show al ρ (.lt p x) = false from decide_eq_false hlt]; rfl)
        split at h
        ·rename_i fid fn c vs hcall
         unfold rE at hcall
         split at hcall
         ·rename_i f args at_ ho
          split at hcall
          ·rename_i f' first cap vs' hf hvs
           split at hcall
           ·rename_i fn' hfn
            split at hcall
            ·rename_i c' hbody
             cases hcall
             obtain ⟨f1, f2⟩ := hc.fns _ _ hfn
             obtain ⟨fs, cs, he, g1, g2⟩ := aj hf hr hGd
             have hargs := b8 hr hGd hvs
             have hall : ai (RV ρ ls) (first.map xg ++ vs' ++ cap.map xg) (fs ++ args.toList.map a.eval ++ cs) := ((fF g1).append hargs).append (fF g2)
             have hl := hall.len
             have e : args.map a.eval = (args.toList.map a.eval).toArray := by rw [← Array.toList_map]
             have hrun : (execOp a.eval o).run P w =   .ok (.enter fid (fs ++ args.toList.map a.eval ++ cs).toArray) w := by
              simp only [execOp, ho, resolve, he, Deferred.ofValue, Sem.run_bind, Sem.run_pure, Result.andThen_ok, invoke, e]
              rw [bd f1 (by rw [hbody]; rfl) f2]
              simp
             refine fR hrun (callsIn_of_wp_marks (R := sI P r all rest o.dst a Q) f1 hbody trivial ?_)
             refine ih (.code c) (.act fid fn s.tm df rd all rest o.dst :: K) ⟨iV fn.ntmps (first.map xg ++ vs' ++ cap.map xg), s.hp, s.neg⟩ [] none ls _ w _ [] none ⟨rfl, Q, r, a, ds, hk, hrd, hdf, hd, hr, rfl⟩ rfl (fa hall ?_) trivial rfl hh hn h
             simp only [List.size_toArray]
            ·cases hcall
           ·cases hcall
          ·cases hcall
         ·cases hcall
        ·split at h
         ·rename_i l vs hy
          split at h
          ·rename_i ps fE body tm b ty st pd hfr hlr
           split at h
           ·rename_i hrdy
            split at h
            ·rename_i tm' hps
             obtain ⟨rfl, rfl⟩ := rz hrdy
             unfold JB at hy
             split at hy
             ·rename_i f args at_ ho
              split at hy
              ·rename_i l' vs' hf hvs
               cases hy
               obtain ⟨L, hL, he⟩ := aj hf hr hGd
               have hargs := b8 hr hGd hvs
               obtain ⟨L', rec, g1, g2, g3, _, _⟩ := hh.bW (dK hlr)
               rw [hL] at g1
               cases g1
               obtain ⟨rec', a', c1, c2, c3, c4, c5, c6⟩ := cC hk hfr
               rw [g2] at c1
               cases c1
               have hlenp : ps.toList.length = (args.toList.map a.eval).length := by
                have := tM hps
                rw [this, hargs.len]
               have hrun : (execOp a.eval o).run P w = .ok (.round L rec.fn ((rec.params.zip (args.map a.eval)).foldl (fun tmps (t, a) => tmps.setIfInBounds t a) rec.tmps) rec.assign rec.body) w := by
                have hsz : (args.map a.eval).size = ({ rec with state := .ready, pending := ll none } : Loop).params.size := by
                 show _ = rec.params.size
                 rw [c2]
                 simp at hlenp ⊢
                 omega
                have := run_yield (P := P) g3 hsz
                simp only [execOp, ho, resolve, he, Deferred.ofValue, Sem.run_bind, Sem.run_pure, Result.andThen_ok, invoke]
                simpa using this
               refine zi hrun (roundIn_of_wpIn (F := Fence.wide) trivial ?_)
               rw [c3, c4]
               have hT : aX ρ ls tm' { tmps := (rec.params.zip (args.map a.eval)).foldl (fun tmps (t, a) => tmps.setIfInBounds t a) rec.tmps, defers := [] } := by
                have := xm (a := a) (ρ := ρ) (ls := ls) (t := rec.tmps) hps (c6.tmps c5) hargs
                rw [CN, c2]
                simpa using this
               exact ih (.code fE) (.fE l body :: .sJ l s.tm df rd all rest o.dst :: K) ⟨tm', s.hp, s.neg⟩ [] (some l) ls _ w _ [] (some L)
                ⟨roundPost P L (sI P r all rest o.dst a Q), L, ⟨Q, r, a, ds, L, hk, hrd, hdf, hd, hr, hL, rfl⟩, hL, rfl⟩ ⟨L, hL, rfl⟩ hT trivial rfl hh hn h
              ·cases hy
             ·cases hy
            ·exact h.elim
           ·exact h.elim
          ·exact h.elim
         ·exact h.elim
    ·obtain ⟨h1, h2⟩ := h
     cases hGd : al ρ Gd
     ·have hne : al ρ (bp Gd) = true := by rw [jE, hGd]; rfl
      obtain ⟨g1, g2⟩ := cu hne hn hr hh
      exact hskip hGd (ih (.ops all rest) K ⟨bB (bf (bp Gd) s).tm o.dst oO, (bf (bp Gd) s).hp, Gd :: (bf (bp Gd) s).neg⟩ df rd ls (a.put o.dst undef) w Q ds r hk hrd (aX.put g1 _ lB) hdf (aW hd _ _) g2 (fun e he => by
       rcases List.mem_cons.1 he with rfl | he
       ·exact hGd
       ·exact bX hne hn e he) (h2 ((bC ρ _).2 hne)))
     ·obtain ⟨g1, g2⟩ := cu hGd hn hr hh
      exact ih (.ops all (o :: rest)) K (bf Gd s) df rd ls a w Q ds r hk hrd g1 hdf hd g2 (bX hGd hn) (h1 ((bC ρ _).2 hGd))
theorem vy {P : Program} {cf : a8} {ρ : Env} {B : Nat} {w0 w : World} {ls : Ls} {hp hp' : SH} {tm : aw} {a : Act} {G : E} {o : Oper} {v : SV} {ow : Ow} (h : IA P cf tm hp G o = some (v, hp', ow)) (hc : aP P ρ cf) (hw : ow.Ok ρ) (hr : aX ρ ls tm a) (hG : al ρ G = true) (hh : aB ρ B w0 ls hp w) :
 gy P (fun z w' => ∃ ls', Ext ls ls' ∧ aB ρ B w0 ls' hp' w' ∧ RV ρ ls' v z) ((execOp a.eval o).run P w) := by
 unfold IA at h
 split at h
 ·rename_i v' hp'' he
  cases h
  obtain ⟨ls', w', e1, e2, e3⟩ := mB (P := P) (w := w) he hr hG hh
  rcases e3 with ⟨s', z, hs, hrun, hz⟩ | ⟨hs, _⟩
  ·cases hs
   rw [hrun]
   exact ⟨ls', e1, e2, hz⟩
  ·cases hs
 ·rename_i hp'' he
  cases h
  obtain ⟨ls', w', e1, e2, e3⟩ := mB (P := P) (w := w) he hr hG hh
  rcases e3 with ⟨s', z, hs, _⟩ | ⟨_, hrun⟩
  ·cases hs
  ·rw [hrun]
   exact ⟨ls', e1, e2, trivial⟩
 ·exact FE h hc hw hr hG hh
theorem xt {P : Program} {cf : a8} {sm : Sm} {hp hp' : SH} {neg : List E} {ops : Array Oper} {tm : aw} {k c n : Nat} {ah : List It} {v : SV} {ow : Ow} (h : rG P cf sm hp neg ops tm k = some (c, n, ah, v, hp', ow)) :
 ru P cf sm hp neg ops tm k c n = some ah ∧ fY ops tm k c n = true ∧ xu P cf hp neg ops tm c n ah = some (v, hp', ow) ∧ ru P cf sm hp' neg ops tm k c n = some ah := by
 unfold rG at h
 generalize (sK P cf sm hp neg ops tm k (mG [] (ops.toList.drop k) + k)).ah.length = c' at h
 simp only at h
 split at h
 ·rename_i n' its' htry
  split at h
  ·rename_i v' hp'' ow' heff
   split at h
   ·rename_i its2 hits2
    split at h
    ·rename_i hs
     cases h
     obtain ⟨h1, h2⟩ := py htry
     have e := iH hs
     subst e
     exact ⟨h1, h2, heff, hits2⟩
    ·cases h
   ·cases h
  ·cases h
 ·cases h
theorem jH {L : Array Bool} {i : Nat} (h : L.getD i false = true) : L.getD i true = true := by
 cases hq : L.getD i true with
 | true => rfl
 | false => rw [getD_both hq] at h; cases h
theorem FH {ops : Array Oper} {cs pd : List Nat} (h : JC ops cs pd = true) : ∀ j ∈ cs, ∃ o, ops[j]? = some o ∧ ∃ e ∈ o.after, Region.binds .any e = true ∧ e.on ∈ pd := fun j hj => by
 have := List.all_eq_true.1 h j hj
 split at this
 ·rename_i o ho
  obtain ⟨e, he, h2⟩ := List.any_eq_true.1 this
  simp only [Bool.and_eq_true] at h2
  obtain ⟨x, hx, h3⟩ := List.any_eq_true.1 h2.2
  exact ⟨o, ho, e, by simpa using he, h2.1, by rw [Nat.eq_of_beq_eq_true h3]; exact hx⟩
 ·cases this
theorem pz {P : Program} {cf : a8} {sm : Sm} {hp : SH} {neg : List E} {ops : Array Oper} {tm : aw} {k c : Nat} : ∀ {d m n : Nat} {r : List It × SH × List (E × Ow)}, CQ P cf sm hp neg ops tm k c d m = some (n, r) → ∃ ps, fY ops tm k c n = true ∧ (∀ x ∈ ps, k ≤ x ∧ x < n) ∧ sL P cf sm neg ops tm k n ps [] hp = some r
 | 0, m, n, r, h => by cases h
 | d + 1, m, n, r, h => by
  simp only [CQ] at h
  split at h
  ·rename_i hchk
   split at h
   ·rename_i hps
    split at h
    ·rename_i r' hr
     cases h
     refine ⟨_, hchk, fun x hx => ?_, hr⟩
     have := List.all_eq_true.1 hps x hx
     simp only [Bool.and_eq_true] at this
     exact ⟨Nat.le_of_ble_eq_true this.1, Nat.le_of_ble_eq_true this.2⟩
    ·exact pz h
   ·exact pz h
  ·exact pz h
theorem xw {P : Program} {cf : a8} {sm : Sm} {hp : SH} {neg : List E} {ops : Array Oper} {tm : aw} {k n : Nat} {r : List It × SH × List (E × Ow)} (h : rJ P cf sm hp neg ops tm k = some (n, r)) : ∃ c ps, fY ops tm k c n = true ∧ (∀ x ∈ ps, k ≤ x ∧ x < n) ∧ sL P cf sm neg ops tm k n ps [] hp = some r := by
 unfold rJ at h
 obtain ⟨ps, h1, h2, h3⟩ := pz h
 exact ⟨_, ps, h1, h2, h3⟩
theorem zx {all : Array Oper} {tm : aw} {k : Nat} : ∀ it ∈ bz all tm k, it.isVal = true := fun it hit => by
 unfold bz at hit
 obtain ⟨j, _, rfl⟩ := List.mem_map.1 hit
 rfl
theorem kg {P : Program} {cf : a8} {sm : Sm} {hp : SH} {neg : List E} {all : Array Oper} {tm : aw} {k n : Nat} {fx : List (Nat × Tm)} {ah : List It} {os : List (E × Ow)} (hkn : k ≤ n) (hn : n ≤ all.size) (h : jI P cf sm hp neg all (aV all n tm) fx ((all.toList.take n).drop k) (bz all tm k) [] = some (ah, os)) :
 ah.length = n ∧ (∀ it ∈ ah, it.isVal = true) ∧ FI (bz all tm k) ah ∧ ∀ j o, k ≤ j → j < n → tP fx j = none → all[j]? = some o → lD P cf sm hp neg all (aV all n tm) ah os j o := by
 obtain ⟨i1, i2, i3, _, i4⟩ := vz h (fun i o hi => by
  rw [iI]
  rw [List.getElem?_drop, List.getElem?_take] at hi
  split at hi
  ·simpa using hi
  ·cases hi) zx
 rw [iI] at i1 i4
 have hl : ah.length = n := by
  rw [i1, List.length_drop, List.length_take, Array.length_toList]
  omega
 rw [hl] at i4
 exact ⟨hl, i2, i3, i4⟩
theorem Bt {P : Program} {cf : a8} {ρ : Env} {B : Nat} {w0 : World} {sm : Sm} {neg : List E} {all : Array Oper} {tm : aw} {k n : Nat} {r : Option Nat} {ds : List Deferred} {Q : Exit → Act → World → Prop} {itsF : List It} {hpF : SH} (hsm : fS P ρ sm) (hc : aP P ρ cf) (hneg : ∀ e ∈ neg, al ρ e = false)
 (hdn : iU .any all = true) (hB : oN .any all n = true) (hkn : k ≤ n) (hn : n ≤ all.size)
 (hd : (∀ (i d : Nat), i < n → aq all i = some d → d < tm.n) ∧ ∀ (i j d : Nat), i < n → j < n → i ≠ j → aq all i = some d → aq all j ≠ some d) :
 ∀ {ps : List Nat} {done : List (Nat × Tm)} {hp : SH} {ows : List (E × Ow)} {ah : List It} {os : List (E × Ow)} {ls : Ls} {L : Array Bool} {a : Act} {w : World}, sL P cf sm neg all tm k n ps done hp = some (itsF, hpF, ows) → (∀ x ∈ ps, k ≤ x ∧ x < n) → (∀ x ∈ ows, al ρ x.1 = true → x.2.Ok ρ) →
  jI P cf sm hp neg all (aV all n tm) (done ++ oQ ps) ((all.toList.take n).drop k) (bz all tm k) [] = some (ah, os) → vR ρ cf B w0 ls hp tm all n k ds ah (done.map fun x => x.1) ps L a w →
  (∀ ls' a' w', Ext ls ls' → aX ρ ls' (kD all itsF (aS all.size n) n tm) a' → a'.defers = ds → aB ρ B w0 ls' hpF w' → wpAnyIn (dD r) 0 P .any all Q (all.size - n) (aS all.size n) a' w') →
  wpAnyIn (dD r) 0 P .any all Q (kK L n + (all.size - n)) L a w
 | [], done, hp, ows, ah, os, ls, L, a, w, h, _, how, hits, hch, hk => by
  simp only [sL] at h
  simp only [oQ, List.map_nil, List.append_nil] at hits
  rw [hits] at h
  cases h
  obtain ⟨i1, i2, i3, i5⟩ := kg hkn hn hits
  exact FJ hsm hc hneg hdn hB hn hd i2 how (fun j o h1 h2 h3 h4 => i5 j o h1 h2 (fT fun x hx e => h3 (List.mem_map.2 ⟨x, hx, e⟩)) h4) hch fun a' w' h1 h2 h3 => hk ls a' w' (Ext.refl ls) h1 h2 h3
 | c :: ps, done, hp, ows, ah, os, ls, L, a, w, h, hps, how, hits, hch, hk => by
  simp only [sL] at h
  rw [hits] at h
  simp only at h
  split at h
  ·rename_i v hp' ow heff
   split at h
   ·rename_i its' os' hits'
    split at h
    ·rename_i hcond
     split at h
     ·rename_i itsF' hpF' ows' hrun
      cases h
      simp only [Bool.and_eq_true, Bool.not_eq_true'] at hcond
      obtain ⟨⟨hsame, hdep⟩, hnot⟩ := hcond
      have hcs : c ∉ ps := fun hm => by
       have := List.any_eq_false.1 hnot c hm
       simp at this
      have e := iH hsame
      subst e
      obtain ⟨i1, i2, i3, i5⟩ := kg hkn hn hits
      obtain ⟨hkc, hcn⟩ := hps c (List.mem_cons_self ..)
      refine NM hsm hc hneg hdn hB hn hd i2 hcn (fun x hx => how x (List.mem_append_left _ hx)) (fun j o h1 h2 h3 h4 h5 h6 => i5 j o h1 h2 (fT fun x hx e => ?_) h6) (FH hdep) (fun L a w o hch' hrd ho => ?_) _ L a w rfl hch
      ·rcases List.mem_append.1 hx with hx | hx
       ·exact h3 (List.mem_map.2 ⟨x, hx, e⟩)
       ·obtain ⟨y, hy, rfl⟩ := List.mem_map.1 hx
        have e : y = j := e
        subst e
        rcases List.mem_cons.1 hy with hy | hy
        ·exact h4 hy
        ·exact h5 hy
      ·obtain ⟨N, _, _, hm⟩ := hch'.JD
       have hsee := hm.QM hch'.inv ho hrd
       unfold xu at heff
       rw [ho] at heff
       simp only at heff
       split at heff
       ·rename_i Gd hg
        split at heff
        ·rename_i hT
         have hGd : al ρ Gd = true := bJ hT
         have hwd := bF hg hsee hneg
         have hdo : aq all c = o.dst := by unfold aq; rw [ho]; rfl
         unfold wpOpIn
         simp only [ho]
         rw [if_pos (hwd.trans hGd)]
         refine gy.wp (gy.mono (fun z w'' hz => ?_) (vy heff hc (how _ (List.mem_append_right _ (List.mem_cons_self ..)) rfl) hsee hGd hm.heap))
         obtain ⟨ls', e1, e2, e3⟩ := hz
         rw [← hdo]
         have hnx := Bu (dn' := ((c, Tm.mk (.bc true) v) :: (iW all ah c ++ done)).map fun x => x.1) hn hd i2 i1 hcn hkc hcs (fun i hi => by
          obtain ⟨x, hx, rfl⟩ := List.mem_map.1 hi
          rcases List.mem_cons.1 hx with hx | hx
          ·left; rw [hx]
          ·right
           rcases List.mem_append.1 hx with hx | hx
           ·unfold iW at hx
            rw [ho] at hx
            obtain ⟨e, he, hx⟩ := List.mem_filterMap.1 hx
            split at hx
            ·rename_i hbd
             split at hx
             ·cases hx
              obtain ⟨_, o', ho', hdp⟩ := mem_ready.1 hrd
              have : o' = o := Option.some.inj (ho'.symm.trans ho)
              subst this
              exact jH (hdp e (by simpa using he) hbd)
             ·cases hx
            ·cases hx
           ·exact hch'.dn _ (List.mem_map.2 ⟨x, hx, rfl⟩)) hch' hrd e1 e2 (a6 e3)
         exact Bt hsm hc hneg hdn hB hkn hn hd hrun (fun x hx => hps x (List.mem_cons_of_mem _ hx)) (fun x hx => how x (List.mem_append_right _ (List.mem_cons_of_mem _ hx))) hits' hnx fun ls'' a' w' x1 x2 x3 x4 => hk ls'' a' w' (e1.trans x1) x2 x3 x4
        ·cases heff
       ·cases heff
     ·cases h
    ·cases h
   ·cases h
  ·cases h
theorem CS {P : Program} {cf : a8} {ρ : Env} {B : Nat} {w0 w : World} {ls : Ls} {hp hpF : SH} {a : Act} {sm : Sm} {neg : List E} {all : Array Oper} {tm : aw} {k c n : Nat} {r : Option Nat} {ds : List Deferred} {Q : Exit → Act → World → Prop} {ps : List Nat} {itsF : List It} {ows : List (E × Ow)} (hsm : fS P ρ sm) (hc : aP P ρ cf) (hneg : ∀ e ∈ neg, al ρ e = false)
 (hr : aX ρ ls tm a) (hdf : a.defers = ds) (hh : aB ρ B w0 ls hp w) (hchk : fY all tm k c n = true) (hps : ∀ x ∈ ps, k ≤ x ∧ x < n) (hrun : sL P cf sm neg all tm k n ps [] hp = some (itsF, hpF, ows)) (how : ∀ x ∈ ows, al ρ x.1 = true → x.2.Ok ρ)
 (hk : ∀ ls' a' w', Ext ls ls' → aX ρ ls' (kD all itsF (aS all.size n) n tm) a' → a'.defers = ds → aB ρ B w0 ls' hpF w' → wpAnyIn (dD r) 0 P .any all Q (all.size - n) (aS all.size n) a' w') :
 wpAnyIn (dD r) 0 P .any all Q (all.size - k) (aS all.size k) a w := by
 obtain ⟨hkc, hcn, hn, hdn, hB, hd⟩ := eT hchk
 have hits : ∃ ah os, jI P cf sm hp neg all (aV all n tm) ([] ++ oQ ps) ((all.toList.take n).drop k) (bz all tm k) [] = some (ah, os) := by
  cases ps with
  | nil =>
   simp only [sL] at hrun
   split at hrun
   ·rename_i ah os h; exact ⟨ah, os, h⟩
   ·cases hrun
  | cons c ps =>
   simp only [sL] at hrun
   split at hrun
   ·rename_i ah os h; exact ⟨ah, os, h⟩
   ·cases hrun
 obtain ⟨ah, os, hits⟩ := hits
 obtain ⟨i1, i2, i3, i5⟩ := kg (by omega) hn hits
 have hlk : ∀ {i : Nat}, i < n → (aS all.size k).getD i false = true → i < k := fun {i} hi hl => by
  rw [aR _ (by omega)] at hl
  exact of_decide_eq_true hl
 have h0 := Bt (L := aS all.size k) hsm hc hneg hdn hB (by omega) hn hd hrun hps how hits
  ⟨fJ hdn (by omega), fun i hi => by rw [aR _ (by omega)]; exact decide_eq_true hi, fun i hi => (by cases hi), fun i hi => by
    have := hps i hi
    rw [aR _ (by omega)]; exact decide_eq_false (by omega), w.heap.size, hh.size, fun i x b hx hb => fN hh.size (hh.bA i x hx) hb,
    hdf, hr.1.symm, hh, Nat.le_refl _, fun d t hdn ht _ => hr.2 d t hdn ht, fun _ => none, fun i it d hi hl hit' hdi => by
     have h2 := i3 _ _ (eE (all := all) (tm := tm) (hlk hi hl))
     rw [hit'] at h2
     cases h2
     exact kh hr hdi, fun i j x y d e b hi hj _ hl _ hx _ fx => by rw [cZ (i2 x (List.mem_of_getElem? hx))] at fx; cases fx⟩ hk
 rw [gQ n hn] at h0
 rwa [show n - k + (all.size - n) = all.size - k by omega] at h0
theorem CT {P : Program} {ρ : Env} {ls : Ls} {tm : aw} {a : Act} {l : List Oper} {e : E} {lo : Int} {n : Nat} (hr : aX ρ ls tm a) (h : zy P tm l = some (e, lo, n)) : lo ≤ aa ρ e ∧ aa ρ e < lo + n := by
 unfold zy at h
 split at h
 ·cases h
 ·split at h
  ·obtain ⟨rfl, h1⟩ := nH hr h; exact h1
  ·cases h
theorem CU {P : Program} {ρ : Env} {ls : Ls} {cf : a8} {sm : Sm} {hp : SH} {neg : List E} {ops : Array Oper} {tm : aw} {a : Act} {k : Nat} {l : List Oper} {e : E} {lo : Int} {n : Nat} (hr : aX ρ ls tm a) (h : zz P cf sm hp neg ops tm k l = some (e, lo, n)) : lo ≤ aa ρ e ∧ aa ρ e < lo + n := by
 unfold zz at h
 obtain ⟨o, _, ho⟩ := List.exists_of_findSome?_eq_some h
 split at ho
 ·obtain ⟨rfl, h1⟩ := nH hr ho; exact h1
 ·cases ho
theorem Bv {P : Program} {cf : a8} {sm : Sm} {hp : SH} {neg : List E} {ops : Array Oper} {tm : aw} {k c : Nat} : ∀ {d m n : Nat} {ps : List Nat}, IB P cf sm hp neg ops tm k c d m = some (n, ps) → fY ops tm k c n = true ∧ ∀ x ∈ ps, k ≤ x ∧ x < n
 | 0, m, n, ps, h => by cases h
 | d + 1, m, n, ps, h => by
  simp only [IB] at h
  split at h
  ·rename_i hchk
   split at h
   ·rename_i hps
    cases h
    rw [Bool.and_eq_true] at hps
    refine ⟨hchk, fun x hx => ?_⟩
    have := List.all_eq_true.1 hps.1 x hx
    simp only [Bool.and_eq_true] at this
    exact ⟨Nat.le_of_ble_eq_true this.1, Nat.le_of_ble_eq_true this.2⟩
   ·cases h
  ·exact Bv h
theorem CV {P : Program} {cf : a8} {sm : Sm} {hp : SH} {neg : List E} {ops : Array Oper} {tm : aw} {k n : Nat} {ps : List Nat} (h : zA P cf sm hp neg ops tm k = some (n, ps)) : ∃ c, fY ops tm k c n = true ∧ ∀ x ∈ ps, k ≤ x ∧ x < n := by
 unfold zA at h
 exact ⟨_, Bv h⟩
theorem IC {ops : Array Oper} {tm : aw} {k c c' n : Nat} (h : fY ops tm k c n = true) (h1 : k ≤ c') (h2 : c' < n) : fY ops tm k c' n = true := by
 simp only [fY, Bool.and_eq_true] at h ⊢
 obtain ⟨⟨⟨⟨⟨_, _⟩, h3⟩, h4⟩, h5⟩, h6⟩ := h
 exact ⟨⟨⟨⟨⟨Nat.ble_eq_true_of_le h1, Nat.ble_eq_true_of_le h2⟩, h3⟩, h4⟩, h5⟩, h6⟩
theorem Bw {ρ : Env} {B : Nat} {w0 w : World} {ls : Ls} {hp : SH} {tm : aw} {all : Array Oper} {a : Act} {cf : a8} {ds : List Deferred} {k c n : Nat} {ah its' : List It} {dn ps : List Nat} {L : Array Bool} {late : List Bool}
 (h : vR ρ cf B w0 ls hp tm all n k ds ah dn ps L a w) (hv : ∀ it ∈ ah, it.isVal = true) (hs : rK late c 0 ah its' = true) (hl : ∀ j, late.getD j false = true → j ≠ c → L.getD j false = false) : vR ρ cf B w0 ls hp tm all n k ds its' dn ps L a w := by
 obtain ⟨s1, s2, s3⟩ := xx hs
 obtain ⟨inv, lo, hdn, pd, N, h1, h2, hm⟩ := h
 refine ⟨inv, lo, hdn, pd, N, h1, h2, hm.Gy, hm.sz, hm.heap, hm.base, hm.jW, fun _ => none, fun i it d hi hli hit hdi => ?_, fun i j x y d e b _ _ _ _ _ hx _ fx => by rw [cZ (s2 x (List.mem_of_getElem? hx))] at fx; cases fx⟩
 have hiv := s2 it (List.mem_of_getElem? hit)
 have hit' : ah[i]? = some it := by
  rcases s3 i with ⟨h3, h4⟩ | h3
  ·rw [Nat.zero_add] at h3 h4
   rw [hl i h3 h4] at hli; cases hli
  ·rw [h3]; exact hit
 obtain ⟨ob, hob⟩ := hm.done i it d hi hli hit' hdi
 cases it with
 | val t => exact hob
 | new sl ty cs => cases hiv
 | res c es => cases hiv
 | put _ _ => cases hiv
theorem xy {all : Array Oper} {n c j : Nat} {L : Array Bool} (inv : HeadInv .any all n L) (hc : L.getD c true = false) (h : (fc all c n).getD j false = true) (hj : j ≠ c) : (L.setIfInBounds c true).getD j false = false := by
 rw [getD_set_ne false (fun e => hj e.symm)]
 exact pA (getD_both hc) (fun j o ho hx e he hb => inv.closed j o ho hx e he hb) n j h
theorem xz {R : Env → SV → SH → Prop} {ρ : Env} : ∀ {l : List Fm} {f : Fm}, (L6 l).holds R ρ → f ∈ l → f.holds R ρ
 | [x], f, h, hm => by
  rw [List.mem_singleton.1 hm]
  exact h
 | x :: y :: l, f, h, hm => by
  rcases List.mem_cons.1 hm with rfl | hm
  ·exact h.1
  ·exact xz h.2 hm
theorem gT {c x : Nat} {ps : List Nat} : x ∈ og c ps ↔ x ∈ ps ∧ x ≠ c := by
 unfold og
 rw [List.mem_filter, Bool.not_eq_true']
 constructor
 ·rintro ⟨h1, h2⟩
  exact ⟨h1, fun e => by subst e; simp at h2⟩
 ·rintro ⟨h1, h2⟩
  exact ⟨h1, by
   cases hb : Nat.beq c x with
   | false => rfl
   | true => exact absurd (Nat.eq_of_beq_eq_true hb).symm h2⟩
theorem ID {ops : Array Oper} {n : Nat} {ps : List Nat} {c : Nat} {L : Array Bool} (h : IE ops n ps c = true) (inv : HeadInv .any ops n L) (hpd : ∀ i ∈ ps, L.getD i true = false) (hrd : c ∈ Region.ready .any ops L) : False := by
 unfold IE at h
 obtain ⟨p, hp, h2⟩ := List.any_eq_true.1 h
 simp only [Bool.and_eq_true] at h2
 obtain ⟨o, ho, e, he, hb, h3⟩ := tQ n c h2.2
 obtain ⟨_, o', ho', hdp⟩ := mem_ready.1 hrd
 have : o = o' := Option.some.inj (ho.symm.trans ho')
 subst this
 have h4 := hdp e he hb
 rcases h3 with h3 | ⟨m, h3⟩
 ·rw [h3, getD_both (hpd p hp)] at h4; cases h4
 ·rw [pA (getD_both (hpd p hp)) (fun j o ho hx e he hb => inv.closed j o ho hx e he hb) m e.on h3] at h4; cases h4
theorem IF {P : Program} {cf : a8} {ρ : Env} {B : Nat} {w0 w : World} {ls : Ls} {hp hp' : SH} {tm : aw} {all : Array Oper} {a : Act} {sm : Sm} {neg : List E} {c n : Nat} {ah : List It} {v : SV} {ow : Ow} {o : Oper} (heff : L7 P cf sm hp neg all tm c n ah = some (v, hp', ow)) (ho : all[c]? = some o) (hsm : fS P ρ sm) (hc : aP P ρ cf) (hneg : ∀ e ∈ neg, al ρ e = false)
 (hsee : aX ρ ls (dN all ah o.after.toList (aV all n tm)) a) (hh : aB ρ B w0 ls hp w) (hw : ow.Ok ρ) :
 Region.wanted o (yielded all a.tmps) = true ∧ gy P (fun z w' => ∃ ls', Ext ls ls' ∧ aB ρ B w0 ls' hp' w' ∧ RV ρ ls' v z) ((execOp a.eval o).run P w) := by
 unfold L7 at heff
 rw [ho] at heff
 simp only at heff
 split at heff
 ·rename_i Gd hg
  split at heff
  ·rename_i hT
   have hGd : al ρ Gd = true := bJ hT
   have hwd := bF hg hsee hneg
   refine ⟨hwd.trans hGd, ?_⟩
   split at heff
   ·rename_i r hr
    cases heff
    exact vy hr hc hw hsee hGd hh
   ·split at heff
    ·rename_i v' ow' hq
     cases heff
     have hs := vw (P := P) (a := a) (w := w) hsm hq hc.q hw hsee hGd hh
     generalize (execOp a.eval o).run P w = r at *
     cases r with
     | ok nx w' =>
      cases nx <;> simp only [bH] at hs <;> simp only [gy]
      case value u => obtain ⟨rfl, h2⟩ := hs; exact ⟨ls, Ext.refl _, hh, h2⟩
      case skip => obtain ⟨rfl, h2⟩ := hs; exact ⟨ls, Ext.refl _, hh, h2⟩
      case enter f args =>
       obtain ⟨rfl, hcl⟩ := hs
       exact hcl.mono fun e w'' ⟨u, he, hu, hb⟩ => ⟨u, he, ls, Ext.refl _, hb, hu⟩
     | halt x w' => exact hs.elim
    ·cases heff
  ·cases heff
 ·cases heff
theorem FK {ρ : Env} {B : Nat} {w0 w : World} {ls : Ls} {hp : SH} {tm : aw} {all : Array Oper} {a : Act} {cf : a8} {ds : List Deferred} {k c n : Nat} {ah : List It} {dn : List Nat} {ps : List Nat} {L : Array Bool} {t : Tm} {z : Value}
 (h : L3 all tm k n c ps ah dn L) (hdf : a.defers = ds) (hr : lC ρ ls all ah L n tm a) (hh : aB ρ B w0 ls hp w) (hz : RT ρ ls t z) :
 vR ρ cf B w0 ls hp tm all n k ds (ah.set c (.val t)) (c :: dn) ps (L.setIfInBounds c true) (a.put (aq all c) z) w := by
 obtain ⟨hkc, hcn, hn, hdn, hB, hd⟩ := eT h.Rh
 have hlc := h.pd c (List.mem_cons_self ..)
 have hlen := h.len
 have hv' : ∀ it ∈ ah.set c (.val t), it.isVal = true := fun it hit => by
  rcases List.mem_or_eq_of_mem_set hit with h1 | h1
  ·exact h.val it h1
  ·subst h1; rfl
 have kO : ∀ {i : Nat} {x : It}, (ah.set c (.val t))[i]? = some x → x.fresh = true → False := fun hx fx => by rw [cZ (hv' _ (List.mem_of_getElem? hx))] at fx; cases fx
 refine ⟨h.inv.set h.RR hcn, fun i hi => by rw [getD_set_ne true (by omega)]; exact h.lo i hi, fun i hi => ?_, fun i hi => by rw [getD_set_ne true (rL hi h.not)]; exact h.pd i (List.mem_cons_of_mem _ hi),
  w.heap.size, hh.size, fun i x b hx hb => fN hh.size (hh.bA i x hx) hb, ?_, ?_, hh, Nat.le_refl _, ?_, fun _ => none, ?_, fun i j x y d e b _ _ _ _ _ hx _ fx => (kO hx fx).elim⟩
 ·by_cases hic : c = i
  ·rw [← hic]; exact cX _ _
  ·rw [getD_set_ne true hic]
   rcases List.mem_cons.1 hi with h1 | h1
   ·exact absurd h1.symm hic
   ·exact h.dn i h1
 ·cases aq all c <;> exact hdf
 ·cases aq all c with
  | none => exact hr.1
  | some d => show (a.tmps.setIfInBounds d z).size = _; rw [Array.size_setIfInBounds]; exact hr.1
 ·intro d y hdn hy hno
  have hnc : aq all c ≠ some d := hno c hcn (du hlc)
  rcases cD (a := a) (d := aq all c) (u := z) (e := d) with ⟨_, h2, _⟩ | ⟨h1, _⟩
  ·exact (hnc h2).elim
  ·rw [h1]; exact hr.2.1 d y hdn hy fun i hi hl => hno i hi (getD_set_true hl)
 ·intro i it d hi hl hit' hdi
  by_cases hic : i = c
  ·subst hic
   rw [List.getElem?_set_self (by rw [hlen]; exact hi)] at hit'
   cases hit'
   show RT ρ ls t _
   rcases cD (a := a) (d := aq all i) (u := z) (e := d) with ⟨h1, _, _⟩ | ⟨_, h2⟩
   ·rw [h1]; exact hz
   ·rcases h2 with h2 | h2
    ·exact (h2 hdi).elim
    ·have := hd.1 i d hcn hdi
     have := hr.1
     omega
  ·rw [List.getElem?_set_ne (fun e => hic e.symm)] at hit'
   rw [getD_set_ne false (fun e => hic e.symm)] at hl
   rcases cD (a := a) (d := aq all c) (u := z) (e := d) with ⟨_, h2, _⟩ | ⟨h1, _⟩
   ·exact (hd.2 c i d hcn hi (fun e => hic e.symm) h2 hdi).elim
   ·rw [h1]
    have hiv := h.val it (List.mem_of_getElem? hit')
    cases it with
    | val t' => exact hr.2.2 i t' d hi hl hit' hdi
    | new sl ty cs => cases hiv
    | res c es => cases hiv
    | put _ _ => cases hiv
set_option maxHeartbeats 2000000 in
theorem By {sm : Sm} {hp : SH} {neg : List E} {all : Array Oper} {tm : aw} {k n c : Nat} {its0 : List It} {done : List (Nat × Tm)} {ps ps' : List Nat} (h : IG P cf sm hp neg all tm k n c its0 done ps = some ps') :
 (∀ x ∈ ps', x ∈ ps) ∧ ∃ its' os, jI P cf sm hp neg all (aV all n tm) (done ++ oQ ps') ((all.toList.take n).drop k) (bz all tm k) [] = some (its', os) ∧ rK (fc all c n) c 0 its0 its' = true := by
 have ok : ∀ {ps : List Nat}, II P cf sm hp neg all tm k n c its0 done ps = true → ∃ its' os, jI P cf sm hp neg all (aV all n tm) (done ++ oQ ps) ((all.toList.take n).drop k) (bz all tm k) [] = some (its', os) ∧ rK (fc all c n) c 0 its0 its' = true := fun {ps} hk => by
  unfold II at hk
  split at hk
  ·rename_i its' os hits
   exact ⟨its', os, hits, hk⟩
  ·cases hk
 unfold IG at h
 split at h
 ·rename_i hk
  cases h
  simp only [Bool.and_eq_true] at hk
  exact ⟨fun x hx => (List.mem_filter.1 hx).1, ok hk.2⟩
 ·split at h
  ·rename_i hk
   cases h
   exact ⟨fun x hx => hx, ok hk⟩
  ·cases h
theorem vR.less {ρ : Env} {ls : Ls} {hp : SH} {tm : aw} {all : Array Oper} {n k : Nat} {ds : List Deferred} {ah : List It} {dn pd pd' : List Nat} {L : Array Bool} {a : Act} {w : World} (h : vR ρ cf B w0 ls hp tm all n k ds ah dn pd L a w) (hs : ∀ x ∈ pd', x ∈ pd) : vR ρ cf B w0 ls hp tm all n k ds ah dn pd' L a w :=
 ⟨h.inv, h.lo, h.dn, fun i hi => h.pd i (hs i hi), h.JD⟩
theorem nI {rec : Rec} (ih00 : gS P cf rec) {ρ : Env} (hc : aP P ρ cf) {sm : Sm} (hsm : fS P ρ sm) {f0 : FuncId} {fn0 : Func} {R0 : Ending → World → Prop} {B : Nat} {w0 : World} {neg : List E} {all : Array Oper} {tm : aw} {k n c0 : Nat} {df : List Nat} {rd : Option Nat} {K : List Fr} {Q : Exit → Act → World → Prop} {ds : List Deferred} {r : Option Nat}
 (hneg : ∀ e ∈ neg, al ρ e = false) (hchk : fY all tm k c0 n = true) :
 ∀ {m : Nat} {ps : List Nat} {done : List (Nat × Tm)} {hp : SH} {ah : List It} {os : List (E × Ow)} {ls : Ls} {L : Array Bool} {a : Act} {w : World}, (gv P cf sm rec f0 fn0 neg all tm k n df rd K m ps done hp).holds (fun ρ => bk ρ B w0 R0) ρ → (∀ x ∈ ps, k ≤ x ∧ x < n) →
  jI P cf sm hp neg all (aV all n tm) (done ++ oQ ps) ((all.toList.take n).drop k) (bz all tm k) [] = some (ah, os) → vR ρ cf B w0 ls hp tm all n k ds ah (done.map fun x => x.1) ps L a w →
  aF P B w0 fn0 R0 ρ ls r K Q → oc ls rd r → jg ls df ds →
  wpAnyIn (dD r) 0 P .any all Q (kK L n + (all.size - n)) L a w
 | m, [], done, hp, ah, os, ls, L, a, w, h, _, hits, hch, hk, hrd, hdf => by
  obtain ⟨hkc, hcn, hn, hdn, hB, hd⟩ := eT hchk
  simp only [gv] at h
  simp only [oQ, List.map_nil, List.append_nil] at hits
  rw [hits] at h
  obtain ⟨how, h⟩ := mD h
  obtain ⟨i1, i2, i3, i5⟩ := kg (by omega) hn hits
  exact FJ hsm hc hneg hdn hB hn hd i2 how (fun j o h1 h2 h3 h4 => i5 j o h1 h2 (fT fun x hx e => h3 (List.mem_map.2 ⟨x, hx, e⟩)) h4) hch fun a' w' h1 h2 h3 =>
   ih00 ρ hc f0 fn0 R0 B w0 (.ops (true, all) (all.toList.drop n)) K ⟨kD all ah (aS all.size n) n tm, hp, neg⟩ df rd ls a' w' Q ds r hk hrd h1 hdf h2 h3 hneg h n hn rfl
 | 0, p :: ps, done, hp, ah, os, ls, L, a, w, h, hps, hits, hch, hk, hrd, hdf => by
  simp only [gv] at h
  exact h.elim
 | m + 1, p :: ps, done, hp, ah, os, ls, L, a, w, h, hps, hits, hch, hk, hrd, hdf => by
  obtain ⟨_, _, hn, hdn, hB, hd⟩ := eT hchk
  obtain ⟨hkp, hpn⟩ := hps p (List.mem_cons_self ..)
  simp only [gv] at h
  rw [hits] at h
  simp only at h
  obtain ⟨how, h⟩ := mD h
  obtain ⟨i1, i2, i3, i5⟩ := kg (by omega) hn hits
  refine L8 hsm hc hneg hdn hB hn hd i2 hpn how (List.mem_cons_self ..) (fun j o h1 h2 h3 h4 h6 => i5 j o h1 h2 (fT fun x hx e => ?_) h6) (fun c hcm L a w o hch' hrdy ho => ?_) _ L a w rfl hch
  ·rcases List.mem_append.1 hx with hx | hx
   ·exact h3 (List.mem_map.2 ⟨x, hx, e⟩)
   ·obtain ⟨y, hy, rfl⟩ := List.mem_map.1 hx
    have e : y = j := e
    subst e
    exact h4 hy
  ·obtain ⟨hkc, hcn⟩ := hps c hcm
   have hcs : c ∉ og c (p :: ps) := fun hm => (gT.1 hm).2 rfl
   have hch' : vR ρ cf B w0 ls hp tm all n k ds ah (done.map fun x => x.1) (c :: og c (p :: ps)) L a w := ⟨hch'.inv, hch'.lo, hch'.dn, fun i hi => by
    rcases List.mem_cons.1 hi with e | hi
    ·rw [e]; exact hch'.pd c hcm
    ·exact hch'.pd i (gT.1 hi).1, hch'.JD⟩
   cases hdep : IE all n (p :: ps) c with
   | true =>
    refine (ID hdep hch'.inv (fun i hi => ?_) hrdy).elim
    by_cases hic : i = c
    ·rw [hic]; exact hch'.pd c (List.mem_cons_self ..)
    ·exact hch'.pd i (List.mem_cons_of_mem _ (gT.2 ⟨hi, hic⟩))
   | false =>
    have h := xz h (List.mem_map.2 ⟨c, List.mem_filter.2 ⟨hcm, by rw [hdep]; rfl⟩, rfl⟩)
    obtain ⟨N, _, _, hm⟩ := hch'.JD
    have hsee := hm.QM hch'.inv ho hrdy
    have hdo : aq all c = o.dst := by unfold aq; rw [ho]; rfl
    have hdeps : ∀ x ∈ iW all ah c ++ done, L.getD x.1 true = true := fun x hx => by
     rcases List.mem_append.1 hx with hx | hx
     ·unfold iW at hx
      rw [ho] at hx
      obtain ⟨e, he, hx⟩ := List.mem_filterMap.1 hx
      split at hx
      ·rename_i hbd
       split at hx
       ·cases hx
        obtain ⟨_, o', ho', hdp⟩ := mem_ready.1 hrdy
        have : o' = o := Option.some.inj (ho'.symm.trans ho)
        subst this
        exact jH (hdp e (by simpa using he) hbd)
       ·cases hx
      ·cases hx
     ·exact hch'.dn _ (List.mem_map.2 ⟨x, hx, rfl⟩)
    split at h
    ·rename_i v hp' ow heff
     obtain ⟨hw1, h⟩ := qY h
     split at h
     ·rename_i ps' hnxt
      obtain ⟨hsub, its', os', hits', hsame⟩ := By hnxt
      ·obtain ⟨hwt, hup⟩ := IF heff ho hsm hc hneg hsee hm.heap (hw1 rfl)
       unfold wpOpIn
       simp only [ho]
       rw [if_pos hwt]
       refine gy.wp (gy.mono (fun z w'' hz => ?_) hup)
       obtain ⟨ls', e1, e2, e3⟩ := hz
       rw [← hdo]
       have hnx := Bu (dn' := ((c, Tm.mk (.bc true) v) :: (iW all ah c ++ done)).map fun x => x.1) hn hd i2 i1 hcn hkc hcs (fun i hi => by
        obtain ⟨x, hx, rfl⟩ := List.mem_map.1 hi
        rcases List.mem_cons.1 hx with hx | hx
        ·left; rw [hx]
        ·right; exact hdeps x hx) hch' hrdy e1 e2 (a6 e3)
       exact nI ih00 hc hsm hneg hchk h (fun x hx => hps x (gT.1 (hsub x hx)).1) hits' ((Bw hnx (fun it hit => by
        rcases List.mem_or_eq_of_mem_set hit with h1 | h1
        ·exact i2 it h1
        ·subst h1; rfl) hsame fun j h1 h2 => xy hch'.inv (hch'.pd c (List.mem_cons_self ..)) h1 h2).less hsub) (hk.ext e1) (hrd.ext e1) (hdf.ext e1)
     ·exact h.elim
    ·split at h
     ·rename_i f fn code vs hcall
      unfold ry at hcall
      rw [ho] at hcall
      simp only at hcall
      split at hcall
      ·rename_i Gd hg
       split at hcall
       ·rename_i hT
        have hGd : al ρ Gd = true := bJ hT
        have hwd := bF hg hsee hneg
        unfold wpOpIn
        simp only [ho]
        rw [if_pos (hwd.trans hGd)]
        unfold rE at hcall
        split at hcall
        ·rename_i f1 args at_ hop
         split at hcall
         ·rename_i f' first cap vs' hf hvs
          split at hcall
          ·rename_i fn' hfn
           split at hcall
           ·rename_i c' hbody
            cases hcall
            obtain ⟨f1, f2⟩ := hc.fns _ _ hfn
            obtain ⟨fs, cs, he', g1, g2⟩ := aj hf hsee hGd
            have hargs := b8 hsee hGd hvs
            have hall : ai (RV ρ ls) (first.map xg ++ vs' ++ cap.map xg) (fs ++ args.toList.map a.eval ++ cs) := ((fF g1).append hargs).append (fF g2)
            have hl := hall.len
            have e : args.map a.eval = (args.toList.map a.eval).toArray := by rw [← Array.toList_map]
            have hrun : (execOp a.eval o).run P w = .ok (.enter f (fs ++ args.toList.map a.eval ++ cs).toArray) w := by
             simp only [execOp, hop, resolve, he', Deferred.ofValue, Sem.run_bind, Sem.run_pure, Result.andThen_ok, invoke, e]
             rw [bd f1 (by rw [hbody]; rfl) f2]
             simp
            refine fR hrun (callsIn_of_wp_marks (R := dJ _ Q a o.dst) f1 hbody trivial ?_)
            have hlst : lC ρ ls all ah L n tm a := ⟨hm.sz, hm.jW, fun i t d h1 h2 h3 h4 => by obtain ⟨_, h⟩ := hm.done i (.val t) d h1 h2 h3 h4; exact h⟩
            have hpm : L3 all tm k n c (og c (p :: ps)) ah ((iW all ah c ++ done).map fun x => x.1) L := ⟨IC hchk hkc hcn, i2, i1, hch'.inv, hch'.lo, fun i hi => by
             obtain ⟨x, hx, rfl⟩ := List.mem_map.1 hi
             exact hdeps x hx, hch'.pd, hrdy, fun x hx => hps x (gT.1 hx).1, hcs⟩
            refine ih00 ρ hc f0 fn0 R0 B w0 (.code code) (.pm f fn tm df rd all k n c (og c (p :: ps)) ah (iW all ah c ++ done) :: K) ⟨iV fn.ntmps (first.map xg ++ vs' ++ cap.map xg), hp, neg⟩ [] none ls _ w _ [] none ⟨rfl, Q, r, a, ds, L, hk, hrd, hdf, hm.Gy, hlst, hpm, by rw [hdo]⟩ rfl (fa hall ?_) trivial rfl hm.heap hneg h
            simp only [List.size_toArray]
           ·cases hcall
          ·cases hcall
         ·cases hcall
        ·cases hcall
       ·cases hcall
      ·cases hcall
     ·exact h.elim
theorem CX {rec : Rec} (ih00 : gS P cf rec) {ρ : Env} (hc : aP P ρ cf) {sm : Sm} (hsm : fS P ρ sm) {f0 : FuncId} {fn0 : Func} {R0 : Ending → World → Prop} {B : Nat} {w0 w : World} {neg : List E} {all : Array Oper} {tm : aw} {k n c0 : Nat} {df : List Nat} {rd : Option Nat} {K : List Fr} {Q : Exit → Act → World → Prop} {ds : List Deferred} {r : Option Nat} {hp : SH} {ls : Ls} {a : Act} {ps : List Nat}
 (hk : aF P B w0 fn0 R0 ρ ls r K Q) (hrd : oc ls rd r) (hr : aX ρ ls tm a) (hdf : jg ls df ds) (hd0 : a.defers = ds) (hh : aB ρ B w0 ls hp w) (hneg : ∀ e ∈ neg, al ρ e = false) (hchk : fY all tm k c0 n = true) (hps : ∀ x ∈ ps, k ≤ x ∧ x < n)
 (h : (gv P cf sm rec f0 fn0 neg all tm k n df rd K ps.length ps [] hp).holds (fun ρ => bk ρ B w0 R0) ρ) :
 wpAnyIn (dD r) 0 P .any all Q (all.size - k) (aS all.size k) a w := by
 obtain ⟨hkc, hcn, hn, hdn, hB, hd⟩ := eT hchk
 have hits : ∃ ah os, jI P cf sm hp neg all (aV all n tm) ([] ++ oQ ps) ((all.toList.take n).drop k) (bz all tm k) [] = some (ah, os) := by
  cases ps with
  | nil =>
   simp only [gv] at h
   split at h
   ·rename_i ah os h'; exact ⟨ah, os, h'⟩
   ·exact h.elim
  | cons c ps =>
   simp only [List.length_cons, gv] at h
   split at h
   ·rename_i ah os h'; exact ⟨ah, os, h'⟩
   ·exact h.elim
 obtain ⟨ah, os, hits⟩ := hits
 obtain ⟨i1, i2, i3, i5⟩ := kg (by omega) hn hits
 have hlk : ∀ {i : Nat}, i < n → (aS all.size k).getD i false = true → i < k := fun {i} hi hl => by
  rw [aR _ (by omega)] at hl
  exact of_decide_eq_true hl
 have h0 := nI (L := aS all.size k) ih00 hc hsm hneg hchk h hps hits
  ⟨fJ hdn (by omega), fun i hi => by rw [aR _ (by omega)]; exact decide_eq_true hi, fun i hi => (by cases hi), fun i hi => by
    have := hps i hi
    rw [aR _ (by omega)]; exact decide_eq_false (by omega), w.heap.size, hh.size, fun i x b hx hb => fN hh.size (hh.bA i x hx) hb,
    hd0, hr.1.symm, hh, Nat.le_refl _, fun d t hdn ht _ => hr.2 d t hdn ht, fun _ => none, fun i it d hi hl hit' hdi => by
     have h2 := i3 _ _ (eE (all := all) (tm := tm) (hlk hi hl))
     rw [hit'] at h2
     cases h2
     exact kh hr hdi, fun i j x y d e b hi hj _ hl _ hx _ fx => by rw [cZ (i2 x (List.mem_of_getElem? hx))] at fx; cases fx⟩ hk hrd hdf
 rw [gQ n hn] at h0
 rwa [show n - k + (all.size - n) = all.size - k by omega] at h0
theorem xA {rec : Rec} (ih00 : gS P cf rec) {ρ : Env} (hc : aP P ρ cf) {sm : Sm} (hsm : fS P ρ sm) {f0 : FuncId} {fn0 : Func} {R0 : Ending → World → Prop} {B : Nat} {w0 : World} {f : FuncId} {fn : Func} {tm : aw} {df' : List Nat} {rd' : Option Nat} {all : Array Oper} {k n c : Nat} {ps : List Nat} {ah : List It} {done : List (Nat × Tm)} {K : List Fr} {s : St} {df : List Nat} {ls : Ls} {a : Act} {w : World} {Q : Exit → Act → World → Prop} {ds : List Deferred} {r : Option Nat}
 (hk : aF P B w0 fn0 R0 ρ ls r (.pm f fn tm df' rd' all k n c ps ah done :: K) Q) (hr : aX ρ ls s.tm a) (hdf : jg ls df ds) (hd : a.defers = ds) (hh : aB ρ B w0 ls s.hp w) (hn : ∀ e ∈ s.neg, al ρ e = false) (h : (Bz P cf sm rec f0 fn0 fn tm df' rd' all k n c ps ah done K s df).holds (fun ρ => bk ρ B w0 R0) ρ) : Q .normal a w ∧ Q .ret a w := by
 obtain ⟨_, Q', r', a', ds', L, k1, k2, k3, k4, k5, k6, rfl⟩ := hk
 unfold Bz at h
 split at h
 ·rename_i v hp' hv
  split at h
  ·rename_i ps' hnxt
   obtain ⟨hsub, its', os', hits, hsame⟩ := By hnxt
   refine gg hv hc.bL hr hdf hd hh fun z w' hz hw' => ?_
   exact nI ih00 hc hsm hn k6.Rh h (fun x hx => k6.oP x (hsub x hx)) hits ((Bw (FK k6 k4 k5 hw' (a6 (mz hn hz))) (fun it hit => by
    rcases List.mem_or_eq_of_mem_set hit with h1 | h1
    ·exact k6.val it h1
    ·subst h1; rfl) hsame fun j h1 h2 => xy k6.inv (k6.pd c (List.mem_cons_self ..)) h1 h2).less hsub) k1 k2 k3
  ·exact h.elim
 ·exact h.elim
set_option maxHeartbeats 2000000 in
theorem zB {rec : Rec} (ih00 : gS P cf rec) {ρ : Env} (hc : aP P ρ cf) {sm : Sm} (hsm : fS P ρ sm) {all : Bool × Array Oper} {l0 : List Oper} {f0 : FuncId} {fn0 : Func} {R0 : Ending → World → Prop} {B : Nat} {w0 : World} {K : List Fr} {s : St} {df : List Nat} {rd : Option Nat} {ls : Ls} {a : Act} {w : World} {Q : Exit → Act → World → Prop} {ds : List Deferred} {r : Option Nat}
 (hk : aF P B w0 fn0 R0 ρ ls r K Q) (hrd : oc ls rd r) (hr : aX ρ ls s.tm a) (hdf : jg ls df ds) (hd : a.defers = ds) (hh : aB ρ B w0 ls s.hp w) (hn : ∀ e ∈ s.neg, al ρ e = false) (h : (vA P cf sm rec f0 fn0 all l0 K s df rd).holds (fun ρ => bk ρ B w0 R0) ρ) : dh r P all Q l0 a w := by
 have ih := ih00 ρ hc f0 fn0 R0 B w0
 obtain ⟨dr, ops⟩ := all
 unfold vA at h
 cases dr with
 | false =>
  simp only at h
  generalize hq : CI P cf sm s.hp s.neg ops l0 s.tm = q at h
  obtain ⟨l1, tm1⟩ := q
  have hrs : L9 P cf sm ops l0 s = (l1, ⟨tm1, s.hp, s.neg⟩) := by unfold L9; rw [hq]
  rw [hrs] at h
  refine pw hsm hc hn hq hr hd hh fun a1 w1 hr1 hd1 hh1 => ?_
  simp only at h
  split at h
  ·rename_i e lo n hs
   obtain ⟨h1, h2⟩ := CT hr1 hs
   obtain ⟨m, hb, hm⟩ := kf h h1 h2
   obtain ⟨g1, g2⟩ := cu (s := ⟨tm1, s.hp, s.neg⟩) hb hn hr1 hh1
   exact ih (.ops (false, ops) l1) K (bf (.eq e (.ic m)) ⟨tm1, s.hp, s.neg⟩) df rd ls a1 w1 Q ds r hk hrd g1 hdf hd1 g2 (bX hb hn) hm
  ·exact oe ih00 hc hsm (all := (false, ops)) (s := ⟨tm1, s.hp, s.neg⟩) hk hrd hr1 hdf hd1 hh1 hn h
 | true =>
  simp only at h
  split at h
  ·rename_i hB
   exact zl hB (ih (.ops (false, ops) l0) K s df rd ls a w Q ds r hk hrd hr hdf hd hh hn h)
  ·split at h
   ·rename_i m q hq
    obtain ⟨p1, p2⟩ := mD h
    intro k hk' he
    simp only at hk' he ⊢
    have hl := congrArg List.length he
    simp at hl
    have ek : ops.size - l0.length = k := by omega
    rw [ek] at hq
    refine FL hsm hc hn hr hd hh hq p1 fun ls'' a' w' hx hr' hd' hh' => ?_
    have hm : m ≤ ops.size := by
     have := (pB hq).2
     simp only [IJ, Bool.and_eq_true] at this
     exact Nat.le_of_ble_eq_true this.1.1.1.1.2
    exact ih (.ops (true, ops) (ops.toList.drop m)) K ⟨(lE cf ops q.ah q.ah 0 (aV ops m s.tm) s.hp).1, (lE cf ops q.ah q.ah 0 (aV ops m s.tm) s.hp).2, s.neg⟩ df rd ls'' a' w' Q ds r (hk.ext hx) (hrd.ext hx) hr' (hdf.ext hx) hd' hh' hn p2 m hm rfl
   ·split at h
    ·exact oe ih00 hc hsm hk hrd hr hdf hd hh hn h
    ·split at h
     ·rename_i c n ah f fn code vs hcp
      intro k hk' he
      simp only at hk' he ⊢
      have hl := congrArg List.length he
      simp at hl
      have ek : ops.size - l0.length = k := by omega
      rw [ek] at hcp h
      obtain ⟨hits, hchk, hcall⟩ := xl hcp
      refine tR hsm hc hn hr hd hh hits hchk fun L a' w' o inv hlk hlc hrd' ho hlst hsee hd' hh' => ?_
      unfold ry at hcall
      rw [ho] at hcall
      simp only at hcall
      split at hcall
      ·rename_i Gd hg
       split at hcall
       ·rename_i hT
        have hGd : al ρ Gd = true := bJ hT
        have hwd := bF hg hsee hn
        unfold wpOpIn
        simp only [ho]
        rw [if_pos (hwd.trans hGd)]
        unfold rE at hcall
        split at hcall
        ·rename_i f1 args at_ hop
         split at hcall
         ·rename_i f' first cap vs' hf hvs
          split at hcall
          ·rename_i fn' hfn
           split at hcall
           ·rename_i c' hbody
            cases hcall
            obtain ⟨f1, f2⟩ := hc.fns _ _ hfn
            obtain ⟨fs, cs, he', g1, g2⟩ := aj hf hsee hGd
            have hargs := b8 hsee hGd hvs
            have hall : ai (RV ρ ls) (first.map xg ++ vs' ++ cap.map xg) (fs ++ args.toList.map a'.eval ++ cs) := ((fF g1).append hargs).append (fF g2)
            have hl := hall.len
            have e : args.map a'.eval = (args.toList.map a'.eval).toArray := by rw [← Array.toList_map]
            have hrun : (execOp a'.eval o).run P w' = .ok (.enter f (fs ++ args.toList.map a'.eval ++ cs).toArray) w' := by
             simp only [execOp, hop, resolve, he', Deferred.ofValue, Sem.run_bind, Sem.run_pure, Result.andThen_ok, invoke, e]
             rw [bd f1 (by rw [hbody]; rfl) f2]
             simp
            have hdo : aq ops c = o.dst := by unfold aq; rw [ho]; rfl
            refine fR hrun (callsIn_of_wp_marks (R := dJ _ Q a' o.dst) f1 hbody trivial ?_)
            refine ih (.code code) (.pc f fn s.tm df rd ops k c n ah :: K) ⟨iV fn.ntmps (first.map xg ++ vs' ++ cap.map xg), s.hp, s.neg⟩ [] none ls _ w' _ [] none ⟨rfl, Q, r, a', ds, L, hk, hrd, hdf, hd', hlst, inv, hlk, hlc, hrd', hchk, by rw [hdo]⟩ rfl (fa hall ?_) trivial rfl hh' hn h
            simp only [List.size_toArray]
           ·cases hcall
          ·cases hcall
         ·cases hcall
        ·cases hcall
       ·cases hcall
      ·cases hcall
     ·split at h
      ·rename_i c n ah v hp' ow hep
       obtain ⟨p1, p2⟩ := qY h
       intro k hk' he
       simp only at hk' he ⊢
       have hl := congrArg List.length he
       simp at hl
       have ek : ops.size - l0.length = k := by omega
       rw [ek] at hep
       obtain ⟨hits, hchk, heff, hits'⟩ := xt hep
       have hnle : n ≤ ops.size := (eT hchk).2.2.1
       refine tR hsm hc hn hr hd hh hits hchk fun L a' w' o inv hlk hlc hrd' ho hlst hsee hd' hh' => ?_
       unfold xu at heff
       rw [ho] at heff
       simp only at heff
       split at heff
       ·rename_i Gd hg
        split at heff
        ·rename_i hT
         have hGd : al ρ Gd = true := bJ hT
         have hwd := bF hg hsee hn
         have hdo : aq ops c = o.dst := by unfold aq; rw [ho]; rfl
         unfold wpOpIn
         simp only [ho]
         rw [if_pos (hwd.trans hGd)]
         refine gy.wp (gy.mono (fun z w'' hz => ?_) (vy heff hc (p1 rfl) hsee hGd hh'))
         obtain ⟨ls', e1, e2, e3⟩ := hz
         rw [← hdo]
         exact oh hsm hc hn hd' e2 hits' hchk inv hlk hlc hrd' (hlst.ext e1) (a6 e3) fun a'' w3 hr'' hd'' hh'' =>
          ih (.ops (true, ops) (ops.toList.drop n)) K ⟨kD ops (ah.set c (.val ⟨.bc true, v⟩)) (aS ops.size n) n s.tm, hp', s.neg⟩ df rd ls' a'' w3 Q ds r (hk.ext e1) (hrd.ext e1) hr'' (hdf.ext e1) hd'' hh'' hn p2 n hnle rfl
        ·cases heff
       ·cases heff
      split at h
      ·rename_i G _
       obtain ⟨h1, h2⟩ := h
       cases hGd : al ρ G
       ·have hne : al ρ (bp G) = true := by rw [jE, hGd]; rfl
        obtain ⟨g1, g2⟩ := cu hne hn hr hh
        exact ih (.ops (true, ops) l0) K (bf (bp G) s) df rd ls a w Q ds r hk hrd g1 hdf hd g2 (bX hne hn) (h2 ((bC ρ _).2 hne))
       ·obtain ⟨g1, g2⟩ := cu hGd hn hr hh
        exact ih (.ops (true, ops) l0) K (bf G s) df rd ls a w Q ds r hk hrd g1 hdf hd g2 (bX hGd hn) (h1 ((bC ρ _).2 hGd))
      ·split at h
       ·rename_i e lo n hs
        obtain ⟨h1, h2⟩ := CU hr hs
        obtain ⟨m, hb, hm⟩ := kf h h1 h2
        obtain ⟨g1, g2⟩ := cu hb hn hr hh
        exact ih (.ops (true, ops) l0) K (bf (.eq e (.ic m)) s) df rd ls a w Q ds r hk hrd g1 hdf hd g2 (bX hb hn) hm
       ·split at h
        ·rename_i n ah hp' ows hmp
         obtain ⟨p1, p2⟩ := mD h
         intro k hk' he
         simp only at hk' he ⊢
         have hl := congrArg List.length he
         simp at hl
         have ek : ops.size - l0.length = k := by omega
         rw [ek] at hmp
         obtain ⟨c, ps, hchk, hps, hrun⟩ := xw hmp
         have hnle : n ≤ ops.size := (eT hchk).2.2.1
         exact CS hsm hc hn hr hd hh hchk hps hrun p1 fun ls' a'' w3 e1 hr'' hd'' hh'' =>
          ih (.ops (true, ops) (ops.toList.drop n)) K ⟨kD ops ah (aS ops.size n) n s.tm, hp', s.neg⟩ df rd ls' a'' w3 Q ds r (hk.ext e1) (hrd.ext e1) hr'' (hdf.ext e1) hd'' hh'' hn p2 n hnle rfl
        ·split at h
         ·rename_i n ps hpl
          intro k hk' he
          simp only at hk' he ⊢
          have hl := congrArg List.length he
          simp at hl
          have ek : ops.size - l0.length = k := by omega
          rw [ek] at hpl h
          obtain ⟨c, hchk, hps⟩ := CV hpl
          exact CX ih00 hc hsm hk hrd hr hdf hd hh hn hchk hps h
         ·exact h.elim
theorem xC {rec : Rec} (ih00 : gS P cf rec) {ρ : Env} (hc : aP P ρ cf) {sm : Sm} (hsm : fS P ρ sm) {f0 : FuncId} {fn0 : Func} {R0 : Ending → World → Prop} {B : Nat} {w0 : World} {f : FuncId} {fn : Func} {tm : aw} {df' : List Nat} {rd' : Option Nat} {all : Array Oper} {k c n : Nat} {ah : List It} {K : List Fr} {s : St} {df : List Nat} {ls : Ls} {a : Act} {w : World} {Q : Exit → Act → World → Prop} {ds : List Deferred} {r : Option Nat}
 (hk : aF P B w0 fn0 R0 ρ ls r (.pc f fn tm df' rd' all k c n ah :: K) Q) (hr : aX ρ ls s.tm a) (hdf : jg ls df ds) (hd : a.defers = ds) (hh : aB ρ B w0 ls s.hp w) (hn : ∀ e ∈ s.neg, al ρ e = false) (h : (BA P cf sm rec f0 fn0 fn tm df' rd' all k c n ah K s df).holds (fun ρ => bk ρ B w0 R0) ρ) : Q .normal a w ∧ Q .ret a w := by
 have ih := ih00 ρ hc f0 fn0 R0 B w0
 obtain ⟨_, Q', r', a', ds', L, k1, k2, k3, k4, k5, k6, k7, k8, k9, k10, rfl⟩ := hk
 unfold BA at h
 split at h
 ·rename_i v hp' hv
  split at h
  ·rename_i its' hits
   split at h
   ·rename_i hsame
    have e := iH hsame
    subst e
    refine gg hv hc.bL hr hdf hd hh fun z w' hz hw' => ?_
    refine oh hsm hc hn k4 hw' hits k10 k6 k7 k8 k9 k5 (a6 (mz hn hz)) fun a'' w'' hr'' hd'' hh'' => ?_
    have hnle : n ≤ all.size := (eT k10).2.2.1
    exact ih (.ops (true, all) (all.toList.drop n)) K ⟨kD all (ah.set c (.val ⟨.bc true, nz s.neg v⟩)) (aS all.size n) n tm, hp', s.neg⟩ df' rd' ls a'' w'' Q' ds' r' k1 k2 hr'' k3 hd'' hh'' hn h n hnle rfl
   ·exact h.elim
  ·exact h.elim
 ·exact h.elim
theorem FM {n : Nat} {ls : Ls} {hp : SH} {w : World} (hh : aB ρ B w0 ls hp w) (hn : n ≤ hp.length) (hv : (hp.take n).all (HE.av (cB n []) Ma) = true) : aB ρ B w0 (ls.take n) (hp.take n) w ∧ bR (cB n []) Ma ρ ρ ls (ls.take n) := by
 have hl := hh.len
 have hls : ∀ l, l < n → (ls.take n)[l]? = ls[l]? := fun l hl => by rw [List.getElem?_take, if_pos hl]
 have hM : bR (cB n []) Ma ρ ρ ls (ls.take n) := ⟨Agree.refl _ _, fun l hl => hls l (vr hl), fun _ _ => rfl⟩
 have hun : ∀ {l : Nat}, l < n → cB n [] l = true := fun h => by simp [cB]; exact h
 have hhp : ∀ {i : Nat} {x : HE}, (hp.take n)[i]? = some x → i < n ∧ hp[i]? = some x := fun {i x} h => by
  rw [List.getElem?_take] at h
  split at h
  ·exact ⟨by assumption, h⟩
  ·cases h
 refine ⟨⟨hh.below, hh.base, by simp [hl], hh.cS, fun i x hx => ?_, fun i j x y b hx hy lx bi bj => ?_⟩, hM⟩
 ·obtain ⟨h1, h2⟩ := hhp hx
  exact aT.move hM (List.all_eq_true.1 hv x (List.mem_of_getElem? hx)) (hun h1) (hh.bA i x h2)
 ·obtain ⟨h1, h2⟩ := hhp hx
  obtain ⟨h3, h4⟩ := hhp hy
  rw [hls i h1] at bi
  exact hh.inj i j x y b h2 h4 lx bi (bj.at (hls j h3).symm)
theorem FN {n : Nat} {s s' : St} {df df' : List Nat} {rd : Option Nat} {K : List Fr} {fn0 : Func} {R0 : Ending → World → Prop} {ls : Ls} {a : Act} {w : World} {Q : Exit → Act → World → Prop} {ds : List Deferred} {r : Option Nat} (h : Oo n s df rd K = some (s', df'))
 (hk : aF P B w0 fn0 R0 ρ ls r K Q) (hrd : oc ls rd r) (hr : aX ρ ls s.tm a) (hdf : jg ls df ds) (hh : aB ρ B w0 ls s.hp w) :
 ∃ ls', aF P B w0 fn0 R0 ρ ls' r K Q ∧ oc ls' rd r ∧ aX ρ ls' s'.tm a ∧ jg ls' df' ds ∧ aB ρ B w0 ls' s'.hp w ∧ s'.neg = s.neg := by
 unfold Oo at h
 split at h
 ·rename_i hc
  cases h
  simp only [IK, Bool.and_eq_true] at hc
  obtain ⟨⟨⟨⟨c1, c2⟩, c4⟩, c5⟩, c6⟩ := hc
  have c1 := Nat.le_of_ble_eq_true c1
  obtain ⟨g1, hM⟩ := FM hh c1 c2
  exact ⟨_, aF.move hM (by rw [List.length_take, hh.len]; omega) c6 hk, hrd.move hM.ls c5, hr.JA hM, hdf.move hM.ls c4, g1, rfl⟩
 ·cases h
theorem Mb {n : Nat} {s s' : St} {df df' : List Nat} {rd : Option Nat} {K : List Fr} {fn0 : Func} {R0 : Ending → World → Prop} {ls : Ls} {a : Act} {w : World} {Q : Exit → Act → World → Prop} {ds : List Deferred} {r : Option Nat} (h : Oq n s df rd K = some (s', df'))
 (hk : aF P B w0 fn0 R0 ρ ls r K Q) (hrd : oc ls rd r) (hr : aX ρ ls s.tm a) (hdf : jg ls df ds) (hh : aB ρ B w0 ls s.hp w) :
 ∃ ls', aF P B w0 fn0 R0 ρ ls' r K Q ∧ oc ls' rd r ∧ aX ρ ls' s'.tm a ∧ jg ls' df' ds ∧ aB ρ B w0 ls' s'.hp w ∧ s'.neg = s.neg := by
 unfold Oq at h
 split at h
 ·rename_i mk df0
  split at h
  ·rename_i hle
   have hle := Nat.le_of_ble_eq_true hle
   split at h
   ·rename_i ty hm
    split at h
    ·rename_i hc
     cases h
     match ds, hdf with
     | d :: ds, hdf =>
      generalize n + df0.length = m at *
      simp only [IK, Bool.and_eq_true] at hc
      obtain ⟨⟨⟨⟨c1, c2⟩, c4⟩, c5⟩, c6⟩ := hc
      have c1 := Nat.le_of_ble_eq_true c1
      obtain ⟨g1, hM⟩ := FM hh c1 c2
      obtain ⟨D, d1, d2⟩ := hdf.1
      have hlen : (ls.take m).length = m := by rw [List.length_take, hh.len]; omega
      have he : Ext (ls.take m) (ls.take m ++ [.pointer (some ⟨D, 0, none⟩)]) := Ext.snoc _ _
      have hmk : aT ρ B w ls mk ⟨true, ty, .mark⟩ := hh.bA mk _ hm
      have hj : aB ρ B w0 (ls.take m ++ [.pointer (some ⟨D, 0, none⟩)]) (s.hp.take m ++ [⟨true, ty, .mark⟩]) w := by
       have hold : ∀ (b : Nat), D = b → ∀ (i : Nat) (y : HE), (s.hp.take m)[i]? = some y → ¬ bn ρ (ls.take m) i y b := fun b hb i y hy hrb => by
        rw [List.getElem?_take] at hy
        split at hy
        ·rename_i hi
         have := hh.inj mk i _ y b hm hy rfl (by rw [d1]; exact .inl (congrArg some hb)) (hrb.at (by rw [List.getElem?_take, if_pos hi]))
         omega
        ·cases hy
       refine g1.join ?_ (fun _ b hb => hold b (Option.some.inj (hb.of fun _ e => by cases e))) (fun b hb i y hy ly hbl => ?_)
       ·obtain ⟨h1, D', h2, h3⟩ := hmk
        rw [d1] at h2
        cases h2
        exact ⟨rfl, D, by simp, h3⟩
       ·have hb := hb.1
        rw [show (ls.take m ++ [Value.pointer (some ⟨D, 0, none⟩)])[(ls.take m).length]? = some (.pointer (some ⟨D, 0, none⟩)) by simp] at hb
        exact hold b (Option.some.inj (hb.of fun _ e => by cases e)) i y hy (bn.ik ly hbl)
      refine ⟨_, (aF.move hM (Nat.le_of_eq hlen.symm) c6 hk).ext he, (hrd.move hM.ls c5).ext he, (hr.JA hM).ext he, ⟨⟨D, ?_, d2⟩, (jg.move hM.ls c4 hdf.2).ext he⟩, hj, rfl⟩
      rw [List.getElem?_append_right (Nat.le_of_eq hlen), hlen]; simp
    ·cases h
   ·cases h
  ·exact FN h hk hrd hr hdf hh
 ·exact FN h hk hrd hr hdf hh
theorem Mc {f0 : FuncId} {s : St} {df : List Nat} {rd : Option Nat} {K : List Fr} {fn0 : Func} {R0 : Ending → World → Prop} {ls : Ls} {a : Act} {w : World} {Q : Exit → Act → World → Prop} {ds : List Deferred} {r : Option Nat}
 (hk : aF P B w0 fn0 R0 ρ ls r K Q) (hrd : oc ls rd r) (hr : aX ρ ls s.tm a) (hdf : jg ls df ds) (hh : aB ρ B w0 ls s.hp w) :
 ∃ ls', aF P B w0 fn0 R0 ρ ls' r K Q ∧ oc ls' rd r ∧ aX ρ ls' (Md cf f0 K s df rd).1.tm a ∧ jg ls' (Md cf f0 K s df rd).2 ds ∧ aB ρ B w0 ls' (Md cf f0 K s df rd).1.hp w ∧ (Md cf f0 K s df rd).1.neg = s.neg := by
 unfold Md
 split
 ·rename_i n _
  cases hg : Oq n s df rd K with
  | none => exact ⟨ls, hk, hrd, hr, hdf, hh, rfl⟩
  | some x => exact Mb (s' := x.1) (df' := x.2) hg hk hrd hr hdf hh
 ·exact ⟨ls, hk, hrd, hr, hdf, hh, rfl⟩
set_option maxHeartbeats 2000000 in
theorem zC {rec : Rec} (ih00 : gS P cf rec) {ρ : Env} (hc : aP P ρ cf) {sm : Sm} (hsm : fS P ρ sm) {f0 : FuncId} {fn0 : Func} {R0 : Ending → World → Prop} {B : Nat} {w0 : World} {K : List Fr} {s : St} {df : List Nat} {rd : Option Nat} {ls : Ls} {a : Act} {w : World} {Q : Exit → Act → World → Prop} {ds : List Deferred} {r : Option Nat}
 (hk : aF P B w0 fn0 R0 ρ ls r K Q) (hrd : oc ls rd r) (hr : aX ρ ls s.tm a) (hdf : jg ls df ds) (hd : a.defers = ds) (hh : aB ρ B w0 ls s.hp w) (hn : ∀ e ∈ s.neg, al ρ e = false) (h : (cx P cf sm rec f0 fn0 K s df rd).holds (fun ρ => bk ρ B w0 R0) ρ) : Q .normal a w := by
 have ih := ih00 ρ hc f0 fn0 R0 B w0
 have topK : ∀ {Q : Exit → Act → World → Prop}, aF P B w0 fn0 R0 ρ ls r [] Q →
  (match kC P cf s df fn0 with | some (v, hp) => Fm.leaf v hp | none => .c9).holds (fun ρ => bk ρ B w0 R0) ρ → Q .normal a w ∧ Q .ret a w := by
  intro Q hk h
  obtain ⟨_, hk'⟩ := hk
  subst hk'
  split at h
  ·rename_i v hp' hv
   exact gg hv hc.bL hr hdf hd hh fun z w' hz hw' => h ρ.k ls w' z hw' hz
  ·exact h.elim
 have retK : ∀ {f : FuncId} {K : List Fr} {Q : Exit → Act → World → Prop} {fn : Func} {tm : aw} {df' : List Nat} {rd' : Option Nat} {all : Bool × Array Oper} {rest : List Oper} {dst : Option Tmp},
  aF P B w0 fn0 R0 ρ ls r (.act f fn tm df' rd' all rest dst :: K) Q →
  (match kC P cf s df fn with | some (v, hp) => rec f0 fn0 (.ops all rest) K ⟨bB tm dst ⟨.bc true, nz s.neg v⟩, hp, s.neg⟩ df' rd' | none => .c9).holds (fun ρ => bk ρ B w0 R0) ρ → Q .normal a w ∧ Q .ret a w := by
  intro f K Q fn tm df' rd' all rest dst hk h
  obtain ⟨_, Q', r', a', ds', k1, k2, k3, k4, k5, rfl⟩ := hk
  split at h
  ·rename_i v hp' hv
   refine gg hv hc.bL hr hdf hd hh fun z w' hz hw' => ?_
   exact ih (.ops all rest) K ⟨bB tm dst ⟨.bc true, nz s.neg v⟩, hp', s.neg⟩ df' rd' ls (a'.put dst z) w' Q' ds' r' k1 k2 (aX.put k5 dst (a6 (mz hn hz))) k3 (aW k4 dst z) hw' hn h
  ·exact h.elim
 have rngK : ∀ {f : FuncId} {K : List Fr} {Q : Exit → Act → World → Prop} {fn : Func} {l : Nat} {ps : Array Tmp} {fE body : Code} {tm : aw} {df' : List Nat} {rd' : Option Nat},
  aF P B w0 fn0 R0 ρ ls r (.oP f fn l ps fE body tm df' rd' :: K) Q →
  (match kC P cf s df fn with
    | some (_, hp) => (match fm hp l with
     | some (b, ty, st, pd) => if rA st then Fm.c9 else rec f0 fn0 (match pd with | none => .rm | some none => .code .ret | some (some id) => .code (.exit id)) K ⟨tm, hp.set l ⟨b, ty, .dead⟩, s.neg⟩ df' rd'
     | none => .c9)
    | none => .c9).holds (fun ρ => bk ρ B w0 R0) ρ → Q .normal a w ∧ Q .ret a w := by
  intro f K Q fn l ps fE body tm df' rd' hk h
  obtain ⟨_, Q', r', a', ds', L, rec, k1, k2, k3, k4, k5, k6, k7, k8, k9, k10, k11, rfl⟩ := hk
  split at h
  ·rename_i v hp' hv
   split at h
   ·rename_i b ty st pd hl
    split at h
    ·exact h.elim
    ·rename_i hbusy
     refine gg hv hc.bL hr hdf hd hh fun z w' hz hw' => ?_
     obtain ⟨L', rec', g1, g2, g3, _, g5⟩ := hw'.bW (dK hl)
     rw [k6] at g1
     cases g1
     have hst : ({ rec' with state := st, pending := ll pd } : Loop).state ≠ .busy := tK hbusy
     refine ⟨_, _, run_endLoop g3 hst, ?_⟩
     exact xq (F := Fence.wide) (ih _ K ⟨tm, hp'.set l ⟨b, ty, .dead⟩, s.neg⟩ df' rd' ls a' _ Q' ds' r' k1 k2 k5 k3 k4 (g5 _) hn h)
   ·exact h.elim
  ·exact h.elim
 have rndK : ∀ {K : List Fr} {Q : Exit → Act → World → Prop} {l : Nat} {tm : aw} {df' : List Nat} {rd' : Option Nat} {all : Bool × Array Oper} {rest : List Oper} {dst : Option Tmp} {b : Bool} {ty : TypeId} {st : LoopState} {pd : Option (Option Nat)} {st' : LoopState} {pd' : Option (Option Nat)} {z : Bool},
  aF P B w0 fn0 R0 ρ ls r (.sJ l tm df' rd' all rest dst :: K) Q → s.hp[l]? = some ⟨b, ty, .bW st pd⟩ →
  (rec f0 fn0 (.ops all rest) K ⟨bB tm dst ⟨.bc true, .c (.bool (.bc z))⟩, s.hp.set l ⟨b, ty, .bW st' pd'⟩, s.neg⟩ df' rd').holds (fun ρ => bk ρ B w0 R0) ρ →
  z = (ll pd').isNone → st' = (if (ll pd').isNone then .ready else .done) →
  ∃ L Q' r' a', Q = roundPost P L (sI P r' all rest dst a' Q') ∧ ∃ v w', (Instr.endRound L (ll pd')).run P w = .ok v w' ∧ sI P r' all rest dst a' Q' (.returned v) w' := by
  intro K Q l tm df' rd' all rest dst b ty st pd st' pd' z hk hl h hz hst
  obtain ⟨Q', r', a', ds', L, k1, k2, k3, k4, k5, k6, rfl⟩ := hk
  obtain ⟨L', rec', g1, g2, g3, g4, _⟩ := hh.bW hl
  rw [k6] at g1
  cases g1
  refine ⟨L, Q', r', a', rfl, _, _, run_endRound (ll pd') g3, ?_⟩
  have hw' := g4 st' pd'
  rw [hst] at hw'
  have hw'' : aB ρ B w0 ls (s.hp.set l ⟨b, ty, .bW st' pd'⟩) (w.putObj L (.loop { { rec' with state := st, pending := ll pd } with state := if (ll pd').isNone then .ready else .done, pending := ll pd' })) := by rw [hst]; exact hw'
  exact ih (.ops all rest) K ⟨bB tm dst ⟨.bc true, .c (.bool (.bc z))⟩, s.hp.set l ⟨b, ty, .bW st' pd'⟩, s.neg⟩ df' rd' ls (a'.put dst (.bool (ll pd').isNone)) _ Q' ds' r' k1 k2 (aX.put k5 dst (a6 (by rw [hz]; exact rfl))) k3 (aW k4 dst _) hw'' hn h
 cases K with
 | nil => simp only [cx] at h; exact (topK hk h).1
 | cons fr K =>
  cases fr with
  | seq c =>
   simp only [cx] at h
   obtain ⟨Q', k1, rfl⟩ := hk
   exact ih (.code c) K s df rd ls a w Q' ds r k1 hrd hr hdf hd hh hn h
  | ji id =>
   simp only [cx] at h
   obtain ⟨Q', k1, rfl⟩ := hk
   exact ih .rm K s df rd ls a w Q' ds r k1 hrd hr hdf hd hh hn h
  | xX =>
   simp only [cx] at h
   obtain ⟨Q', k1, rfl⟩ := hk
   exact ih .rm K s df rd ls a w Q' ds r k1 hrd hr hdf hd hh hn h
  | lp c m =>
   obtain ⟨Q', k1, rfl⟩ := hk
   cases m with
   | zero => simp only [cx] at h; exact h.elim
   | succ m =>
    simp only [cx] at h
    obtain ⟨ls', g1, g2, g3, g4, g5, g6⟩ := Mc (cf := cf) (f0 := f0) k1 hrd hr hdf hh
    exact ih (.code c) (.lp c m :: K) _ _ rd ls' a w _ ds r ⟨Q', g1, rfl⟩ g2 g3 g4 hd g5 (by rw [g6]; exact hn) h
  | inv L hd0 mv A df0 =>
   simp only [cx] at h
   obtain ⟨Q', ρ0, ls0, ds0, k1, k2, k3, k4, k5, k6, k7, k8, k9, rfl⟩ := hk
   split at h
   ·rename_i hdd
    have hdd := xp hdd
    subst hdd
    have := hdf.uniq k4
    subst this
    split at h
    ·rename_i F hF
     exact Fz hF h k2 k6 k7 k8 k9 hr hd hh
    ·exact h.elim
   ·exact h.elim
  | act f fn tm df' rd' all rest dst => simp only [cx] at h; exact (retK hk h).1
  | pc f fn tm df' rd' all k c n ah => simp only [cx] at h; exact (xC ih00 hc hsm hk hr hdf hd hh hn h).1
  | pm f fn tm df' rd' all k n c ps ah done => simp only [cx] at h; exact (xA ih00 hc hsm hk hr hdf hd hh hn h).1
  | oP f fn l ps fE body tm df' rd' => simp only [cx] at h; exact (rngK hk h).1
  | fE l body =>
   simp only [cx] at h
   obtain ⟨Q', L, k1, k2, rfl⟩ := hk
   split at h
   ·rename_i b ty st pd hl
    split at h
    ·rename_i hrdy
     obtain ⟨rfl, rfl⟩ := rz hrdy
     obtain ⟨L', rec, g1, g2, g3, g4, _⟩ := hh.bW (dK hl)
     rw [k2] at g1
     cases g1
     refine ⟨_, run_beginRound g3 rfl, ?_⟩
     exact ih (.code body) K ⟨s.tm, s.hp.set l ⟨b, ty, .bW .busy none⟩, s.neg⟩ df rd ls a _ Q' ds r k1 hrd hr hdf hd (g4 .busy none) hn h
    ·exact h.elim
   ·exact h.elim
  | sJ l tm df' rd' all rest dst =>
   simp only [cx] at h
   split at h
   ·rename_i b ty st pd hl
    obtain ⟨L, Q', r', a', rfl, v, w', e1, e2⟩ := rndK (pd' := none) hk (dK hl) h rfl rfl
    exact ⟨v, w', e1, e2⟩
   ·exact h.elim
set_option maxHeartbeats 2000000 in
theorem CY {rec : Rec} (ih00 : gS P cf rec) {ρ : Env} (hc : aP P ρ cf) {id : Nat} {f0 : FuncId} {fn0 : Func} {R0 : Ending → World → Prop} {B : Nat} {w0 : World} {K : List Fr} {s : St} {df : List Nat} {rd : Option Nat} {ls : Ls} {a : Act} {w : World} {Q : Exit → Act → World → Prop} {ds : List Deferred} {r : Option Nat}
 (hk : aF P B w0 fn0 R0 ρ ls r K Q) (hrd : oc ls rd r) (hr : aX ρ ls s.tm a) (hdf : jg ls df ds) (hd : a.defers = ds) (hh : aB ρ B w0 ls s.hp w) (hn : ∀ e ∈ s.neg, al ρ e = false) (h : (dX P cf rec f0 fn0 id K s df rd).holds (fun ρ => bk ρ B w0 R0) ρ) : Q (.exit id) a w := by
 have ih := ih00 ρ hc f0 fn0 R0 B w0
 have rndK : ∀ {K : List Fr} {Q : Exit → Act → World → Prop} {l : Nat} {tm : aw} {df' : List Nat} {rd' : Option Nat} {all : Bool × Array Oper} {rest : List Oper} {dst : Option Tmp} {b : Bool} {ty : TypeId} {st : LoopState} {pd : Option (Option Nat)} {st' : LoopState} {pd' : Option (Option Nat)} {z : Bool},
  aF P B w0 fn0 R0 ρ ls r (.sJ l tm df' rd' all rest dst :: K) Q → s.hp[l]? = some ⟨b, ty, .bW st pd⟩ →
  (rec f0 fn0 (.ops all rest) K ⟨bB tm dst ⟨.bc true, .c (.bool (.bc z))⟩, s.hp.set l ⟨b, ty, .bW st' pd'⟩, s.neg⟩ df' rd').holds (fun ρ => bk ρ B w0 R0) ρ →
  z = (ll pd').isNone → st' = (if (ll pd').isNone then .ready else .done) →
  ∃ L Q' r' a', Q = roundPost P L (sI P r' all rest dst a' Q') ∧ ∃ v w', (Instr.endRound L (ll pd')).run P w = .ok v w' ∧ sI P r' all rest dst a' Q' (.returned v) w' := by
  intro K Q l tm df' rd' all rest dst b ty st pd st' pd' z hk hl h hz hst
  obtain ⟨Q', r', a', ds', L, k1, k2, k3, k4, k5, k6, rfl⟩ := hk
  obtain ⟨L', rec', g1, g2, g3, g4, _⟩ := hh.bW hl
  rw [k6] at g1
  cases g1
  refine ⟨L, Q', r', a', rfl, _, _, run_endRound (ll pd') g3, ?_⟩
  have hw' := g4 st' pd'
  rw [hst] at hw'
  have hw'' : aB ρ B w0 ls (s.hp.set l ⟨b, ty, .bW st' pd'⟩) (w.putObj L (.loop { { rec' with state := st, pending := ll pd } with state := if (ll pd').isNone then .ready else .done, pending := ll pd' })) := by rw [hst]; exact hw'
  exact ih (.ops all rest) K ⟨bB tm dst ⟨.bc true, .c (.bool (.bc z))⟩, s.hp.set l ⟨b, ty, .bW st' pd'⟩, s.neg⟩ df' rd' ls (a'.put dst (.bool (ll pd').isNone)) _ Q' ds' r' k1 k2 (aX.put k5 dst (a6 (by rw [hz]; exact rfl))) k3 (aW k4 dst _) hw'' hn h
 cases K with
 | nil => simp only [dX] at h; exact h.elim
 | cons fr K =>
  cases fr with
  | seq c =>
   simp only [dX] at h
   obtain ⟨Q', k1, rfl⟩ := hk
   exact ih (.ex id) K s df rd ls a w Q' ds r k1 hrd hr hdf hd hh hn h
  | ji i =>
   simp only [dX] at h
   obtain ⟨Q', k1, rfl⟩ := hk
   show (if id = i then Q' .normal a w else Q' (.exit id) a w)
   split at h
   ·rename_i hi
    rw [if_pos hi]
    exact ih .rm K s df rd ls a w Q' ds r k1 hrd hr hdf hd hh hn h
   ·rename_i hi
    rw [if_neg hi]
    exact ih (.ex id) K s df rd ls a w Q' ds r k1 hrd hr hdf hd hh hn h
  | xX =>
   simp only [dX] at h
   obtain ⟨Q', k1, rfl⟩ := hk
   exact ih (.ex id) K s df rd ls a w Q' ds r k1 hrd hr hdf hd hh hn h
  | lp c m =>
   simp only [dX] at h
   obtain ⟨Q', k1, rfl⟩ := hk
   exact ih (.ex id) K s df rd ls a w Q' ds r k1 hrd hr hdf hd hh hn h
  | inv L hd0 mv A df0 =>
   simp only [dX] at h
   obtain ⟨Q', ρ0, ls0, ds0, k1, k2, k3, k4, k5, k6, k7, k8, k9, rfl⟩ := hk
   exact ih (.ex id) K s df rd ls a w Q' ds r k1 hrd hr hdf hd hh hn h
  | pc f fn tm df' rd' all k c n ah => simp only [dX] at h; exact h.elim
  | pm f fn tm df' rd' all k n c ps ah done => simp only [dX] at h; exact h.elim
  | act f fn tm df' rd' all rest dst => simp only [dX] at h; exact h.elim
  | oP f fn l ps fE body tm df' rd' => simp only [dX] at h; exact h.elim
  | fE l body => simp only [dX] at h; exact h.elim
  | sJ l tm df' rd' all rest dst =>
   simp only [dX] at h
   split at h
   ·rename_i b ty st pd hl
    obtain ⟨L, Q', r', a', rfl, v, w', e1, e2⟩ := rndK (pd' := some (some id)) hk (dK hl) h rfl rfl
    exact ⟨v, w', e1, e2⟩
   ·exact h.elim
set_option maxHeartbeats 2000000 in
theorem zD {rec : Rec} (ih00 : gS P cf rec) {ρ : Env} (hc : aP P ρ cf) {sm : Sm} (hsm : fS P ρ sm) {f0 : FuncId} {fn0 : Func} {R0 : Ending → World → Prop} {B : Nat} {w0 : World} {K : List Fr} {s : St} {df : List Nat} {rd : Option Nat} {ls : Ls} {a : Act} {w : World} {Q : Exit → Act → World → Prop} {ds : List Deferred} {r : Option Nat}
 (hk : aF P B w0 fn0 R0 ρ ls r K Q) (hrd : oc ls rd r) (hr : aX ρ ls s.tm a) (hdf : jg ls df ds) (hd : a.defers = ds) (hh : aB ρ B w0 ls s.hp w) (hn : ∀ e ∈ s.neg, al ρ e = false) (h : (cM P cf sm rec f0 fn0 K s df rd).holds (fun ρ => bk ρ B w0 R0) ρ) : Q .ret a w := by
 have ih := ih00 ρ hc f0 fn0 R0 B w0
 have topK : ∀ {Q : Exit → Act → World → Prop}, aF P B w0 fn0 R0 ρ ls r [] Q →
  (match kC P cf s df fn0 with | some (v, hp) => Fm.leaf v hp | none => .c9).holds (fun ρ => bk ρ B w0 R0) ρ → Q .normal a w ∧ Q .ret a w := by
  intro Q hk h
  obtain ⟨_, hk'⟩ := hk
  subst hk'
  split at h
  ·rename_i v hp' hv
   exact gg hv hc.bL hr hdf hd hh fun z w' hz hw' => h ρ.k ls w' z hw' hz
  ·exact h.elim
 have retK : ∀ {f : FuncId} {K : List Fr} {Q : Exit → Act → World → Prop} {fn : Func} {tm : aw} {df' : List Nat} {rd' : Option Nat} {all : Bool × Array Oper} {rest : List Oper} {dst : Option Tmp},
  aF P B w0 fn0 R0 ρ ls r (.act f fn tm df' rd' all rest dst :: K) Q →
  (match kC P cf s df fn with | some (v, hp) => rec f0 fn0 (.ops all rest) K ⟨bB tm dst ⟨.bc true, nz s.neg v⟩, hp, s.neg⟩ df' rd' | none => .c9).holds (fun ρ => bk ρ B w0 R0) ρ → Q .normal a w ∧ Q .ret a w := by
  intro f K Q fn tm df' rd' all rest dst hk h
  obtain ⟨_, Q', r', a', ds', k1, k2, k3, k4, k5, rfl⟩ := hk
  split at h
  ·rename_i v hp' hv
   refine gg hv hc.bL hr hdf hd hh fun z w' hz hw' => ?_
   exact ih (.ops all rest) K ⟨bB tm dst ⟨.bc true, nz s.neg v⟩, hp', s.neg⟩ df' rd' ls (a'.put dst z) w' Q' ds' r' k1 k2 (aX.put k5 dst (a6 (mz hn hz))) k3 (aW k4 dst z) hw' hn h
  ·exact h.elim
 have rngK : ∀ {f : FuncId} {K : List Fr} {Q : Exit → Act → World → Prop} {fn : Func} {l : Nat} {ps : Array Tmp} {fE body : Code} {tm : aw} {df' : List Nat} {rd' : Option Nat},
  aF P B w0 fn0 R0 ρ ls r (.oP f fn l ps fE body tm df' rd' :: K) Q →
  (match kC P cf s df fn with
    | some (_, hp) => (match fm hp l with
     | some (b, ty, st, pd) => if rA st then Fm.c9 else rec f0 fn0 (match pd with | none => .rm | some none => .code .ret | some (some id) => .code (.exit id)) K ⟨tm, hp.set l ⟨b, ty, .dead⟩, s.neg⟩ df' rd'
     | none => .c9)
    | none => .c9).holds (fun ρ => bk ρ B w0 R0) ρ → Q .normal a w ∧ Q .ret a w := by
  intro f K Q fn l ps fE body tm df' rd' hk h
  obtain ⟨_, Q', r', a', ds', L, rec, k1, k2, k3, k4, k5, k6, k7, k8, k9, k10, k11, rfl⟩ := hk
  split at h
  ·rename_i v hp' hv
   split at h
   ·rename_i b ty st pd hl
    split at h
    ·exact h.elim
    ·rename_i hbusy
     refine gg hv hc.bL hr hdf hd hh fun z w' hz hw' => ?_
     obtain ⟨L', rec', g1, g2, g3, _, g5⟩ := hw'.bW (dK hl)
     rw [k6] at g1
     cases g1
     have hst : ({ rec' with state := st, pending := ll pd } : Loop).state ≠ .busy := tK hbusy
     refine ⟨_, _, run_endLoop g3 hst, ?_⟩
     exact xq (F := Fence.wide) (ih _ K ⟨tm, hp'.set l ⟨b, ty, .dead⟩, s.neg⟩ df' rd' ls a' _ Q' ds' r' k1 k2 k5 k3 k4 (g5 _) hn h)
   ·exact h.elim
  ·exact h.elim
 have rndK : ∀ {K : List Fr} {Q : Exit → Act → World → Prop} {l : Nat} {tm : aw} {df' : List Nat} {rd' : Option Nat} {all : Bool × Array Oper} {rest : List Oper} {dst : Option Tmp} {b : Bool} {ty : TypeId} {st : LoopState} {pd : Option (Option Nat)} {st' : LoopState} {pd' : Option (Option Nat)} {z : Bool},
  aF P B w0 fn0 R0 ρ ls r (.sJ l tm df' rd' all rest dst :: K) Q → s.hp[l]? = some ⟨b, ty, .bW st pd⟩ →
  (rec f0 fn0 (.ops all rest) K ⟨bB tm dst ⟨.bc true, .c (.bool (.bc z))⟩, s.hp.set l ⟨b, ty, .bW st' pd'⟩, s.neg⟩ df' rd').holds (fun ρ => bk ρ B w0 R0) ρ →
  z = (ll pd').isNone → st' = (if (ll pd').isNone then .ready else .done) →
  ∃ L Q' r' a', Q = roundPost P L (sI P r' all rest dst a' Q') ∧ ∃ v w', (Instr.endRound L (ll pd')).run P w = .ok v w' ∧ sI P r' all rest dst a' Q' (.returned v) w' := by
  intro K Q l tm df' rd' all rest dst b ty st pd st' pd' z hk hl h hz hst
  obtain ⟨Q', r', a', ds', L, k1, k2, k3, k4, k5, k6, rfl⟩ := hk
  obtain ⟨L', rec', g1, g2, g3, g4, _⟩ := hh.bW hl
  rw [k6] at g1
  cases g1
  refine ⟨L, Q', r', a', rfl, _, _, run_endRound (ll pd') g3, ?_⟩
  have hw' := g4 st' pd'
  rw [hst] at hw'
  have hw'' : aB ρ B w0 ls (s.hp.set l ⟨b, ty, .bW st' pd'⟩) (w.putObj L (.loop { { rec' with state := st, pending := ll pd } with state := if (ll pd').isNone then .ready else .done, pending := ll pd' })) := by rw [hst]; exact hw'
  exact ih (.ops all rest) K ⟨bB tm dst ⟨.bc true, .c (.bool (.bc z))⟩, s.hp.set l ⟨b, ty, .bW st' pd'⟩, s.neg⟩ df' rd' ls (a'.put dst (.bool (ll pd').isNone)) _ Q' ds' r' k1 k2 (aX.put k5 dst (a6 (by rw [hz]; exact rfl))) k3 (aW k4 dst _) hw'' hn h
 cases K with
 | nil => simp only [cM] at h; exact (topK hk h).2
 | cons fr K =>
  cases fr with
  | seq c =>
   simp only [cM] at h
   obtain ⟨Q', k1, rfl⟩ := hk
   exact ih .ret K s df rd ls a w Q' ds r k1 hrd hr hdf hd hh hn h
  | ji i =>
   simp only [cM] at h
   obtain ⟨Q', k1, rfl⟩ := hk
   exact ih .ret K s df rd ls a w Q' ds r k1 hrd hr hdf hd hh hn h
  | xX =>
   simp only [cM] at h
   obtain ⟨Q', k1, rfl⟩ := hk
   exact ih .ret K s df rd ls a w Q' ds r k1 hrd hr hdf hd hh hn h
  | lp c m =>
   simp only [cM] at h
   obtain ⟨Q', k1, rfl⟩ := hk
   exact ih .ret K s df rd ls a w Q' ds r k1 hrd hr hdf hd hh hn h
  | inv L hd0 mv A df0 =>
   simp only [cM] at h
   obtain ⟨Q', ρ0, ls0, ds0, k1, k2, k3, k4, k5, k6, k7, k8, k9, rfl⟩ := hk
   exact ih .ret K s df rd ls a w Q' ds r k1 hrd hr hdf hd hh hn h
  | pc f fn tm df' rd' all k c n ah => simp only [cM] at h; exact (xC ih00 hc hsm hk hr hdf hd hh hn h).2
  | pm f fn tm df' rd' all k n c ps ah done => simp only [cM] at h; exact (xA ih00 hc hsm hk hr hdf hd hh hn h).2
  | act f fn tm df' rd' all rest dst => simp only [cM] at h; exact (retK hk h).2
  | oP f fn l ps fE body tm df' rd' => simp only [cM] at h; exact (rngK hk h).2
  | fE l body => simp only [cM] at h; exact h.elim
  | sJ l tm df' rd' all rest dst =>
   simp only [cM] at h
   split at h
   ·rename_i b ty st pd hl
    obtain ⟨L, Q', r', a', rfl, v, w', e1, e2⟩ := rndK (pd' := some none) hk (dK hl) h rfl rfl
    exact ⟨v, w', e1, e2⟩
   ·exact h.elim
theorem CZ {rec : Rec} (ih : gS P cf rec) : gS P cf (zE P cf rec) := by
 intro ρ hc f0 fn0 R0 B w0 ctl K s df rd ls a w Q ds r hk hrd hr hdf hd hh hn h
 have hsm : fS P ρ (FO rec) := by
  intro f fn c vs bg v us w hf hb hm hob hg hv
  refine callsIn_wide (n := 0).1 (callsIn_of_wp_marks (R := fun e w' => ∃ val, e = .returned val ∧ RV ρ [] v val ∧ Below w.heap.size w w') hf hb trivial ?_)
  refine ih ρ hc 0 fn _ w.heap.size w (.code c) [] (nJ fn vs) [] none [] _ w _ [] none ⟨rfl, rfl⟩ rfl (fa hv ?_) trivial rfl ?_ (fun e he => by cases he) (Me hm hob fun w' val hb' hr' => ⟨val, rfl, hr', hb'⟩)
  ·simp only [List.size_toArray]
  ·exact ⟨Below.refl _ _, rfl, rfl, hg, fun i x hi => by simp [nJ] at hi, fun i j x y b hi => by simp [nJ] at hi⟩
 cases ctl with
 | code c => exact xr ih hc hsm hk hrd hr hdf hd hh hn h
 | ops all l => exact zB ih hc hsm hk hrd hr hdf hd hh hn h
 | rm => exact zC ih hc hsm hk hrd hr hdf hd hh hn h
 | ex id => exact CY ih hc hk hrd hr hdf hd hh hn h
 | ret => exact zD ih hc hsm hk hrd hr hdf hd hh hn h
theorem zF : ∀ n, gS P cf (goN P cf n)
 | 0 => by rw [FP]; exact fun ρ hc f0 fn0 R0 B w0 ctl K s df rd ls a w Q ds r _ _ _ _ _ _ _ h => h.elim
 | n + 1 => by rw [FQ]; exact CZ (zF n)
theorem gE (hc : aP P ρ cf) {R0 : Ending → World → Prop} {f : FuncId} {fn : Func} {c : Code} (hf : P.funcs[f]? = some fn) (hb : fn.body = some c) (n : Nat) {vs : List SV} {us : List Value} {w : World} {ls : Ls} {hp : SH} (hh : aB ρ w.heap.size w ls hp w) (hv : ai (RV ρ ls) vs us)
 {f0 : FuncId} (h : (go P cf f0 fn n (.code c) [] (gj fn vs hp) [] none).holds (fun ρ => bk ρ w.heap.size w R0) ρ) : Calls P f us.toArray w R0 := by
 refine callsIn_wide (n := 0).1 (callsIn_of_wp_marks (R := R0) hf hb trivial ?_)
 refine zF n ρ hc f0 fn R0 w.heap.size w (.code c) [] (gj fn vs hp) [] none ls _ w _ [] none ⟨rfl, rfl⟩ rfl (fa hv ?_) trivial rfl hh (fun e he => by cases he) h
 simp only [List.size_toArray]
theorem EB (hc : aP P ρ cf) {R0 : Ending → World → Prop} {f : FuncId} {fn : Func} {c : Code} (hf : P.funcs[f]? = some fn) (hb : fn.body = some c) (n : Nat) {vs : List SV} {us : List Value} {B : Nat} {w0 w : World} {ls : Ls} {hp : SH} (hh : aB ρ B w0 ls hp w) (hv : ai (RV ρ ls) vs us)
 {f0 : FuncId} (h : (go P cf f0 fn n (.code c) [] (gj fn vs hp) [] none).holds (fun ρ => bk ρ B w0 R0) ρ) : Calls P f us.toArray w R0 := by
 refine callsIn_wide (n := 0).1 (callsIn_of_wp_marks (R := R0) hf hb trivial ?_)
 refine zF n ρ hc f0 fn R0 B w0 (.code c) [] (gj fn vs hp) [] none ls _ w _ [] none ⟨rfl, rfl⟩ rfl (fa hv ?_) trivial rfl hh (fun e he => by cases he) h
 simp only [List.size_toArray]
theorem IL (hc : aP P ρ cf) {R0 : Ending → World → Prop} {f : FuncId} {fn : Func} {c : Code} (hf : P.funcs[f]? = some fn) (hb : fn.body = some c) (n : Nat) {vs : List SV} {us : List Value} {w : World} (hg : cE ρ.g w.heap.size w) (hv : ai (RV ρ []) vs us)
 {f0 : FuncId} (h : (go P cf f0 fn n (.code c) [] (nJ fn vs) [] none).holds (fun ρ => bk ρ w.heap.size w R0) ρ) : Calls P f us.toArray w R0 :=
 gE hc hf hb n (ls := []) (hp := []) ⟨Below.refl _ _, rfl, rfl, hg, fun i x hi => by simp at hi, fun i j x y b hi => by simp at hi⟩ hv h
end
end Vc
end Go.Proofs.YtpmfkelglmgddaaGreatDoor
