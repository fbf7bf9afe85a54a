/- Layer 41: what the walks assume of each function; the loops. -/
import Derived.Test.YtokicaoapclicaaC07C
namespace Go.Proofs.Ytokicaoapclicaa
namespace Vc
open Go Go.RowKit
set_option linter.unusedVariables false

def KB : RA := .int .i64 (-2000) 2000
def KD : RA := .int .i64 (-64) 64
def R6W : RSh := .agg [K64, K64, K64, K64, K64, K64]
def R6B : RSh := .agg [KB, KB, KB, KB, KB, KB]
def KO : RA := .int .i64 (-3000) 3000
def R6O : RSh := .agg [KO, KO, KO, KO, KO, KO]
def S6 : List Sk := [S64, S64, S64, S64, S64, S64]
def RL : RSh := .one (.row S6 maxLen)
def cNearL : RCtr := ⟨8, [RL], .one .bool, none, 600⟩
def cOvl : RCtr := ⟨13, [RL, R6W], .one .bool, none, 601⟩
def cOvlR : RCtr := ⟨14, [RL, R6O], .one .bool, some 610, 601⟩
def cSl : RCtr := ⟨15, [RL, R6B, .one K64, .one KD], .one (.int .i64 (-64) 64), some 610, 602⟩
def cSlR : RCtr := ⟨16, [RL, R6B, .one K64, .one KD], .one (.int .i64 (-64) 64), some 610, 602⟩
def cEx : RCtr := ⟨30, [], .agg [.cst (.int .i64 0), .cst (.int .i64 0), .cst (.int .i64 0), .cst (.int .i64 4), .cst (.int .i64 4), .cst (.int .i64 4), .row 3 [.int .i64 0 255] 64], none, 660⟩
def CB : Ck := IR (-2000) 2000
def CO : Ck := IR (-2200) 2200
def cMv : Ctr := ⟨26, [.agg [CB, CB, CB, CB, CB, CB], .one (IR 0 2), .one (IR (-200) 200)], .agg [CO, CO, CO, CO, CO, CO], none, 604⟩
def SMt : List Sk := [.str maxLen, .bool, .bool, .bool, S64, S64, S64, S64]
def Sbx : Sk := .int .i64 (-1048575) 1048575
def S6b : List Sk := [Sbx, Sbx, Sbx, Sbx, Sbx, Sbx]
def K1k : RA := .int .i64 (-1000) 1000
def RGn : RSh := .agg [K1k, K1k, K1k, K1k, K1k, K1k, .row [S64] 600]
def RMt : RSh := .one (.row SMt maxLen)
def shBx : List RSh := [RGn, RMt]
def cBoxes : RCtr := ⟨20, [RGw, RMt], .one (.row 26 S6b 600), some 611, 603⟩
def lpNearL : List LSpec := [⟨[0, 0], 20, [(.tmp 3, 0, 41)], [], exs 1, 620, 650⟩]
def lpOvl : List LSpec := [⟨[0, 61, 37, 0], 20, [(.tmp 8, 0, maxLen)], [], exs 7, 621, 650⟩]
def lpOvlR : List LSpec := [⟨[0, 0], 20, [(.tmp 5, 0, maxLen)], [], exs 7, 621, 650⟩]
def lpSl : List LSpec := [⟨[0, 0], 20, [(.tmp 31, 0, maxLen), (.tmp 3, -64, 64)], [], exs 9, 623, 651⟩]
def lpSlR : List LSpec := [⟨[0, 0], 20, [(.tmp 11, -64, 64)], [], exs 9, 624, 652⟩]
def pts (d : Nat) : List Pth := [.part d 0, .part d 1, .part d 2, .part d 3, .part d 4, .part d 5]
def opR : Pth × TypeId × List Sk × Int := (.cell 5 0, 4, [.bool], 600)
def ouR : Pth × TypeId × List Sk × Int := (.cell 3 0, 26, S6b, 600)
def grwX : List Pth := exs 6 ++ [.cell 5 0, .tmp 11, .cell 13 0, .cell 13 2, .cell 13 4, .cell 13 1, .cell 13 3, .cell 13 5]
def grwV : List (Pth × Int × Int) := [(.cell 13 1, -1000, 1000), (.cell 13 3, -1000, 1000), (.cell 13 5, -1000, 1000)]
def cMSolR : RCtr := ⟨24, [RMt, .one K64], .one .bool, none, 670⟩
def lpTile : List LSpec := [⟨[0, 0], 20, [(.tmp 11, 0, 600), (.tmp 10, 0, 600)], [], exs 14, 641, 673⟩, ⟨[2, 0], 30, [(.tmp 13, 0, 1000)], [], exs 14, 642, 672⟩, ⟨[4, 0], 40, [(.tmp 19, 0, 600), (.tmp 17, 0, 600), (.tmp 18, 0, 0)], [], exs 14, 643, 674⟩]
def lpSlides : List LSpec := [⟨[0, 0], 20, [(.tmp 12, -64, 64)], [], exs 9, 640, 658⟩]
def lpBoxes : List LSpec := [⟨[0, 0], 20, [(.tmp 24, 0, 600)], [opR], exs 8, 630, 653⟩, ⟨[0, 71, 0], 30, [(.tmp 10, 0, 600)], [opR, ouR], exs 8, 631, 654⟩,
  ⟨[6, 0, 0], 40, grwV, [], grwX, 632, 655⟩, ⟨[6, 0, 1], 45, grwV, [], grwX, 632, 655⟩, ⟨[6, 0, 2], 50, grwV, [], grwX, 632, 655⟩,
  ⟨[8, 0], 60, [(.tmp 90, 0, 9223345648600875000)], [opR], exs 6 ++ pts 88 ++ [.cell 5 0], 633, 656⟩, ⟨[0, 44, 0], 70, [(.tmp 11, 0, 9223345648600875000)], [], exs 6 ++ pts 9 ++ [.cell 5 0], 634, 657⟩]
/-- A configuration where some functions are walked if a list is known. -/
noncomputable def cfN (ns : List FuncId) (F : Option (Nat → List X → X)) (cs : List Ctr) (rs : List RCtr) (ls : List LSpec) (sm : List FuncId) : Cfg := { cfP fnL F cs rs ls sm with nosc := ns }
theorem cfN_ok {ns : List FuncId} {F : Option (Nat → List X → X)} {cs : List Ctr} {rs : List RCtr} {ls : List LSpec} {sm : List FuncId} (h : KeepL cs) (hr : KeepR rs) (hF : ∀ G, F = some G → G = Ff) : CfgOk Try.prog ρ0 (cfN ns F cs rs ls sm) :=
  have k := cfG_ok (F := F) (ls := ls) (sm := sm) h hr hF
  { eq := k.eq, globs := k.globs, F := k.F, mixed := k.mixed, fns := k.fns, ctr := k.ctr, fn := k.fn, rctr := k.rctr }
/-- A configuration that folds contracts whose conditions are reckoned. -/
def Pbx : Nat → List X → Bool
  | 610, l :: _ => nearL (lstX deX l)
  | 611, [a, b, c, d, e, f, l, t] => fewG (grX a b c d e f l)
  | _, _ => false
theorem pbx_ok : ∀ k ds, Pbx k ds = true → ρ0.p k ds := fun k ds h => by
  unfold Pbx at h
  split at h
  · exact h
  · exact h
  · cases h
noncomputable def cfB (cs : List Ctr) (rs : List RCtr) (sm : List FuncId) : Cfg := { cfP fnL (some Ff) cs rs [] sm with Pb := Pbx }
theorem cfB_ok {cs : List Ctr} {rs : List RCtr} {sm : List FuncId} (h : KeepL cs) (hr : KeepR rs) : CfgOk Try.prog ρ0 (cfB cs rs sm) :=
  have k := cfG_ok (F := some Ff) (ls := []) (sm := sm) h hr someF
  { eq := k.eq, globs := k.globs, F := k.F, mixed := k.mixed, fns := k.fns, ctr := k.ctr, fn := k.fn, rctr := k.rctr, pb := pbx_ok }
end Vc
end Go.Proofs.Ytokicaoapclicaa
