/- The functions of layer 36 in plain terms, and what the walk assumes of each. -/
import Derived.Test.YtciiikkdflhjiaaVcK
import Derived.Test.YtciiikkdflhjiaaRows
namespace Go.Proofs.Ytciiikkdflhjiaa
namespace Vc
open Go Go.RowKit
set_option linter.unusedVariables false

/-! ### Plain functions -/
def okC (c : Int) : Bool := decide (0 ≤ c) && decide (c ≤ 255)
def okF (f : Int) : Bool := decide (0 ≤ f) && decide (f ≤ 11)
def okE (e : Int) : Bool := decide (0 ≤ e) && decide (e ≤ 5)
def nthI (l : List Int) (n : Nat) : Int := l.getD n (-1)
def loF (f : Int) : Int := if okF f then nthI [0, 2, 4, 6, 0, 4, 1, 5, 0, 1, 2, 3] f.toNat else -1
def hiF (f : Int) : Int := if okF f then nthI [1, 3, 5, 7, 2, 6, 3, 7, 4, 5, 6, 7] f.toNat else -1
def solF (c o : Int) : Bool := c / (2 ^ o.toNat : Nat) % 2 == 1
def presF (c f : Int) : Bool := okC c && okF f && (solF c (loF f) != solF c (hiF f))
def upF (c f : Int) : Bool := presF c f && solF c (loF f)
def edgeF (a : Int) (u : Bool) : Int := if 0 ≤ a ∧ a ≤ 2 then 2 * a + (if u then 1 else 0) else -1
/-- The edges along and across a face. -/
def bA (f : Int) : Int := nthI [2, 3, 2, 3, 4, 5, 4, 5, 0, 1, 0, 1] f.toNat
def bB (f : Int) : Int := nthI [4, 4, 5, 5, 0, 0, 1, 1, 2, 2, 3, 3] f.toNat
def twist (f : Int) : Bool := f % 4 == 1 || f % 4 == 2
def inF (c f : Int) : Int := if presF c f then (if twist f == upF c f then bA f else bB f) else -1
def outF (c f : Int) : Int := if presF c f then (if twist f == upF c f then bB f else bA f) else -1
def arT (e : Int) : List Int := match e.toNat with
  | 0 => [4, 10, 5, 8] | 1 => [6, 11, 7, 9] | 2 => [8, 2, 9, 0] | 3 => [10, 3, 11, 1] | 4 => [0, 6, 1, 4] | _ => [2, 7, 3, 5]
def arF (e : Int) (k : Nat) : Int := if okE e then nthI (arT e) k else -1
def solidF (c f : Int) : Int := if upF c f then loF f else hiF f
def cntF (c : Int) : List Int → Int
  | [] => 0
  | f :: r => (if presF c f then 1 else 0) + cntF c r
def findF (c f n : Int) : List Int → Int
  | [] => -1
  | g :: r => if presF c g && (g != f) && ((n == 2) || (solidF c g == solidF c f)) then g else findF c f n r
def pairF (c e f : Int) : Int := if presF c f && okE e && (arT e).elem f then findF c f (cntF c (arT e)) (arT e) else -1
def nextF (c f : Int) : Int := if presF c f then pairF c (outF c f) f else -1

def Ff : Nat → List X → X
  | 100, [f] => xI (loF f.i)
  | 101, [f] => xI (hiF f.i)
  | 110, [c, f] => xI (inF c.i f.i)
  | 111, [c, f] => xI (outF c.i f.i)
  | 120, [a, u] => xI (edgeF a.i u.b)
  | 130, [c, f] => xB (presF c.i f.i)
  | 140, [c, f] => xB (upF c.i f.i)
  | 150, [e] => xI (arF e.i 0)
  | 151, [e] => xI (arF e.i 1)
  | 152, [e] => xI (arF e.i 2)
  | 153, [e] => xI (arF e.i 3)
  | 160, [c, e, f] => xI (pairF c.i e.i f.i)
  | 170, [c, f] => xI (nextF c.i f.i)
  | 180, [c, o] => xB (solF c.i o.i)
  | 190, [c] => xI (if c.i = 129 then 2 else if c.i = 3 then 1 else 0)
  | _, _ => xI 0
def ρ0 : Env := { x := fun _ => xI 0, f := Ff, p := fun _ _ => True, g := [] }

/-! ### Contracts -/
def I64 : Ck := .int .i64 (-9223372036854775808) 9223372036854775807
def IR (lo hi : Int) : Ck := .int .i64 lo hi
def cSol : Ctr := ⟨29, [.one (IR 0 255), .one (IR 0 7)], .one .bool, none, 180⟩
def cOct : Ctr := ⟨10, [.one I64], .tup [(false, [IR (-1) 7]), (false, [IR (-1) 7])], none, 100⟩
def cOctR : Ctr := ⟨12, [.one I64], .agg [IR (-1) 7, IR (-1) 7], none, 100⟩
def cEdge : Ctr := ⟨14, [.one I64, .one .bool], .one (IR (-1) 5), none, 120⟩
def cEdgeR : Ctr := ⟨15, [.one I64, .one .bool], .one (IR (-1) 5), none, 120⟩
def cAr : Ctr := ⟨20, [.one I64], .agg [IR (-1) 11, IR (-1) 11, IR (-1) 11, IR (-1) 11], none, 150⟩
def cArR : Ctr := ⟨21, [.one I64], .agg [IR (-1) 11, IR (-1) 11, IR (-1) 11, IR (-1) 11], none, 150⟩
def cPres : Ctr := ⟨16, [.one I64, .one I64], .one .bool, none, 130⟩
def cPresR : Ctr := ⟨17, [.one I64, .one I64], .one .bool, none, 130⟩
def cUp : Ctr := ⟨18, [.one I64, .one I64], .one .bool, none, 140⟩
def cUpR : Ctr := ⟨19, [.one I64, .one I64], .one .bool, none, 140⟩
def cEnds : Ctr := ⟨11, [.one I64, .one I64], .tup [(false, [IR (-1) 5]), (false, [IR (-1) 5])], none, 110⟩
def cEndsR : Ctr := ⟨13, [.one I64, .one I64], .agg [IR (-1) 5, IR (-1) 5], none, 110⟩
def cPair : Ctr := ⟨25, [.one I64, .one I64, .one I64], .one (IR (-1) 11), none, 160⟩
def cPairR : Ctr := ⟨26, [.one I64, .one I64, .one I64], .one (IR (-1) 11), none, 160⟩
def cNext : Ctr := ⟨27, [.one I64, .one I64], .one (IR (-1) 11), none, 170⟩
def cNextR : Ctr := ⟨28, [.one I64, .one I64], .one (IR (-1) 11), none, 170⟩
def cCyc : Ctr := ⟨23, [.one I64], .one (.ln 12), none, 190⟩

def eqs : List (TypeId × List Kd) := [(27, [.int .i64, .int .i64]), (32, [.int .i64, .int .i64, .int .i64, .int .i64])]
noncomputable def fnL : List (FuncId × Func) := [
  (31, Try.f31),
  (32, Try.f32),
  (37, Try.f37),
  (33, Try.f33),
  (40, Try.f40),
  (42, Try.f42),
  (10, Try.f10),
  (14, Try.f14),
  (16, Try.f16),
  (18, Try.f18),
  (11, Try.f11),
  (20, Try.f20),
  (25, Try.f25),
  (27, Try.f27),
  (23, Try.f23),
  (38, Try.f38),
  (34, Try.f34),
  (35, Try.f35),
  (12, Try.f12),
  (15, Try.f15),
  (29, Try.f29),
  (17, Try.f17),
  (19, Try.f19),
  (36, Try.f36),
  (13, Try.f13),
  (39, Try.f39),
  (21, Try.f21),
  (41, Try.f41),
  (26, Try.f26),
  (28, Try.f28),
  (24, Try.f24),
  (22, Try.f22),
  (30, Try.f30),
  (9, Try.f9)]
noncomputable def mk (cs qs : List Ctr) : Cfg := { eqT := eqs, ctrs := cs, qctrs := qs, fns := fnL, F := some Ff, globs := [] }
def bodyOf (f : Func) : Code := f.body.getD .skip
def ci (n : Int) : SV := .c (.int .i64 (.ic n) n n)
def vi (k : Nat) (lo hi : Int) : SV := .c (.int .i64 (.var k) lo hi)
def lowI (k : Nat) : SV := vi k (-9223372036854775808) (-1)
def env1 (a : Int) : Env := { ρ0 with x := fun _ => xI a }
def Keeps (c : Ctr) : Prop := CtrOk Try.prog ρ0 c
def NamesOk (c : Ctr) : Prop := ∃ fn, Try.prog.funcs[c.f]? = some fn ∧ fn.body.isSome = true ∧ (fn.name == "runtime.NumGoroutine") = false
def AllKeep : List Ctr → Prop
  | [] => True
  | c :: r => (Keeps c ∧ NamesOk c) ∧ AllKeep r
theorem AllKeep.mem : ∀ {l : List Ctr}, AllKeep l → ∀ c ∈ l, Keeps c ∧ NamesOk c
  | [], _, _, h => by cases h
  | x :: r, h, c, hc => by
    rcases List.mem_cons.1 hc with rfl | hc
    · exact h.1
    · exact AllKeep.mem h.2 c hc
theorem fnOk : FnsOk Try.prog fnL :=
  ⟨⟨Try.func31, by kernel_rfl⟩,
    ⟨Try.func32, by kernel_rfl⟩,
    ⟨Try.func37, by kernel_rfl⟩,
    ⟨Try.func33, by kernel_rfl⟩,
    ⟨Try.func40, by kernel_rfl⟩,
    ⟨Try.func42, by kernel_rfl⟩,
    ⟨Try.func10, by kernel_rfl⟩,
    ⟨Try.func14, by kernel_rfl⟩,
    ⟨Try.func16, by kernel_rfl⟩,
    ⟨Try.func18, by kernel_rfl⟩,
    ⟨Try.func11, by kernel_rfl⟩,
    ⟨Try.func20, by kernel_rfl⟩,
    ⟨Try.func25, by kernel_rfl⟩,
    ⟨Try.func27, by kernel_rfl⟩,
    ⟨Try.func23, by kernel_rfl⟩,
    ⟨Try.func38, by kernel_rfl⟩,
    ⟨Try.func34, by kernel_rfl⟩,
    ⟨Try.func35, by kernel_rfl⟩,
    ⟨Try.func12, by kernel_rfl⟩,
    ⟨Try.func15, by kernel_rfl⟩,
    ⟨Try.func29, by kernel_rfl⟩,
    ⟨Try.func17, by kernel_rfl⟩,
    ⟨Try.func19, by kernel_rfl⟩,
    ⟨Try.func36, by kernel_rfl⟩,
    ⟨Try.func13, by kernel_rfl⟩,
    ⟨Try.func39, by kernel_rfl⟩,
    ⟨Try.func21, by kernel_rfl⟩,
    ⟨Try.func41, by kernel_rfl⟩,
    ⟨Try.func26, by kernel_rfl⟩,
    ⟨Try.func28, by kernel_rfl⟩,
    ⟨Try.func24, by kernel_rfl⟩,
    ⟨Try.func22, by kernel_rfl⟩,
    ⟨Try.func30, by kernel_rfl⟩,
    ⟨Try.func9, by kernel_rfl⟩, trivial⟩
theorem mk_ok {cs qs : List Ctr} (h : AllKeep (cs ++ qs)) : CfgOk Try.prog ρ0 (mk cs qs) where
  eq := eqTOk_ok (by kernel_rfl)
  globs := rfl
  F := fun F h => by cases h; rfl
  mixed := by kernel_rfl
  fns := fnOk.look
  ctr := fun c hc => (h.mem c hc).1
  fn := fun c hc => (h.mem c hc).2

theorem all_range {p : Nat → Bool} {n : Nat} (h : ((List.range n).all p) = true) {m : Nat} (hm : m < n) : p m = true := by
  rw [List.all_eq_true] at h
  exact h m (List.mem_range.2 hm)
/-- What is to be shown of one call. -/
def Goal (c : Ctr) (ds : List X) : Prop := ∀ w : World, GlobOk ρ0.g w.heap.size w → Calls Try.prog c.f (argV c.args ds).toArray w fun e w' => ∃ v, e = .returned v ∧ resOk (fun j => Ff j ds) c.fs c.res v ∧ Below w.heap.size w w'
theorem goal_of {c : Ctr} {fn : Func} {cf : Cfg} (hc : CfgOk Try.prog ρ0 cf) (hf : Try.prog.funcs[c.f]? = some fn) (hb : fn.body = some (bodyOf fn)) (n : Nat) {ds : List X} (x : Nat → X) {vs : List SV} {g : Nat → X} (hv : All2 (RV { ρ0 with x := x } []) vs (argV c.args ds))
    (h : (go Try.prog cf fn n (.code (bodyOf fn)) [] (begin0 fn vs)).chk { ρ0 with x := x } g c.fs c.res = true) (hg : ∀ v, resOk g c.fs c.res v → resOk (fun j => Ff j ds) c.fs c.res v) : Goal c ds := fun w hw =>
  (call_ok (ρ := { ρ0 with x := x }) (hc.withX x) hf hb n hw hv (chk_ok h)).mono fun e w' ⟨v, h1, h2, h3⟩ => ⟨v, h1, hg v h2, h3⟩
end Vc
end Go.Proofs.Ytciiikkdflhjiaa
