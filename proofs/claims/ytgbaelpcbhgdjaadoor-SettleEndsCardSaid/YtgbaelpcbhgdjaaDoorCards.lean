/-
  DERIVED. GIVEN WITH THE SEED: THE CARDS: each row of YtgbaelpcbhgdjaaDoorRows.lean that lists a variable, with what it lists TIED to the program's text (the seventh form; the later family's looks); each row that meets fmt, with fmt's text TOLD by the authors' own Lean function (tested against real Go, not proved from fmt's source: count such statements apart). THE CARD IS WHAT COUNTS. Prove the row's statement (the work); the ties are given (YtgbaelpcbhgdjaaDoorTie.lean); close each card by the builder's one call (the guide's Derived/Test/ToyasCard.lean, 'card_holds'). Laid BY PROGRAM, IN A SANDBOX (cutbox-door.mjs). By AI agents, Wed Nov 11 2026. No macro, syntax, notation, axiom, sorry.
-/
import Derived.Test.YtgbaelpcbhgdjaaDoorRows
import GoSem.ClaimSeven
namespace Go.Proofs.YtgbaelpcbhgdjaaDoor
namespace Rows

/-- THE TIED CARD OF 'voxellaw30.SettleRoundMatchesSpec'. -/
def settleRoundMatchesSpecCard : Claim7 := { stood := { row := settleRoundMatchesSpecRow, standIns := [], harness := (true, "7617442a9ef1c376c4056c972e7147e4eacf4a41aa3cf2f69184f577ce24d48a"), looks := false }, kinds := [], alts := [], laidByText := true, laidKinds := [.data], laidTests := true, laidLooks := .later }
def SettleRoundMatchesSpecCardSaid : Prop := Claim7.holds Tryd.pinned (.plain (OpenSpec.ofChange settleRoundMatchesSpecSpec)) settleRoundMatchesSpecCard

/-- THE TIED CARD OF 'voxellaw30.SettleMatchesSpec'. -/
def settleMatchesSpecCard : Claim7 := { stood := { row := settleMatchesSpecRow, standIns := [], harness := (true, "7617442a9ef1c376c4056c972e7147e4eacf4a41aa3cf2f69184f577ce24d48a"), looks := false }, kinds := [], alts := [], laidByText := true, laidKinds := [.data], laidTests := true, laidLooks := .later }
def SettleMatchesSpecCardSaid : Prop := Claim7.holds Tryd.pinned (.plain (OpenSpec.ofChange settleMatchesSpecSpec)) settleMatchesSpecCard

/-- THE TIED CARD OF 'voxellaw30.SettleKeepsCells'. -/
def settleKeepsCellsCard : Claim7 := { stood := { row := settleKeepsCellsRow, standIns := [], harness := (true, "7617442a9ef1c376c4056c972e7147e4eacf4a41aa3cf2f69184f577ce24d48a"), looks := false }, kinds := [], alts := [], laidByText := true, laidKinds := [.data], laidTests := true, laidLooks := .later }
def SettleKeepsCellsCardSaid : Prop := Claim7.holds Tryd.pinned (.plain (OpenSpec.ofChange settleKeepsCellsSpec)) settleKeepsCellsCard

/-- THE TIED CARD OF 'voxellaw30.SettleDescends'. -/
def settleDescendsCard : Claim7 := { stood := { row := settleDescendsRow, standIns := [], harness := (true, "7617442a9ef1c376c4056c972e7147e4eacf4a41aa3cf2f69184f577ce24d48a"), looks := false }, kinds := [], alts := [], laidByText := true, laidKinds := [.data], laidTests := true, laidLooks := .later }
def SettleDescendsCardSaid : Prop := Claim7.holds Tryd.pinned (.plain (OpenSpec.ofChange settleDescendsSpec)) settleDescendsCard

/-- THE TIED CARD OF 'voxellaw30.SettleEnds'. -/
def settleEndsCard : Claim7 := { stood := { row := settleEndsRow, standIns := [], harness := (true, "7617442a9ef1c376c4056c972e7147e4eacf4a41aa3cf2f69184f577ce24d48a"), looks := false }, kinds := [], alts := [], laidByText := true, laidKinds := [.data], laidTests := true, laidLooks := .later }
def SettleEndsCardSaid : Prop := Claim7.holds Tryd.pinned (.plain (OpenSpec.ofChange settleEndsSpec)) settleEndsCard

/-- THE TIED CARD OF 'voxellaw30.SettleByTheClock'. -/
def settleByTheClockCard : Claim7 := { stood := { row := settleByTheClockRow, standIns := [], harness := (true, "7617442a9ef1c376c4056c972e7147e4eacf4a41aa3cf2f69184f577ce24d48a"), looks := false }, kinds := [], alts := [], laidByText := true, laidKinds := [.data], laidTests := true, laidLooks := .later }
def SettleByTheClockCardSaid : Prop := Claim7.holds Tryd.pinned (.plain (OpenSpec.ofChange settleByTheClockSpec)) settleByTheClockCard

/-- THE SECOND FORM's CARD OF 'voxellaw30.SettleRoundMatchesSpec'. -/
def settleRoundMatchesSpecUptoCard : Claim7 := { stood := { row := settleRoundMatchesSpecUptoRow, standIns := [], harness := (true, "7617442a9ef1c376c4056c972e7147e4eacf4a41aa3cf2f69184f577ce24d48a"), looks := false }, kinds := [], alts := [], laidByText := true, laidKinds := [.data], laidTests := true, laidLooks := .later }
def SettleRoundMatchesSpecUptoCardSaid : Prop := Claim7.holds Tryd.pinned (.plain (OpenSpec.upto settleRoundMatchesSpecSpec)) settleRoundMatchesSpecUptoCard

/-- THE SECOND FORM's CARD OF 'voxellaw30.SettleMatchesSpec'. -/
def settleMatchesSpecUptoCard : Claim7 := { stood := { row := settleMatchesSpecUptoRow, standIns := [], harness := (true, "7617442a9ef1c376c4056c972e7147e4eacf4a41aa3cf2f69184f577ce24d48a"), looks := false }, kinds := [], alts := [], laidByText := true, laidKinds := [.data], laidTests := true, laidLooks := .later }
def SettleMatchesSpecUptoCardSaid : Prop := Claim7.holds Tryd.pinned (.plain (OpenSpec.upto settleMatchesSpecSpec)) settleMatchesSpecUptoCard

/-- THE SECOND FORM's CARD OF 'voxellaw30.SettleKeepsCells'. -/
def settleKeepsCellsUptoCard : Claim7 := { stood := { row := settleKeepsCellsUptoRow, standIns := [], harness := (true, "7617442a9ef1c376c4056c972e7147e4eacf4a41aa3cf2f69184f577ce24d48a"), looks := false }, kinds := [], alts := [], laidByText := true, laidKinds := [.data], laidTests := true, laidLooks := .later }
def SettleKeepsCellsUptoCardSaid : Prop := Claim7.holds Tryd.pinned (.plain (OpenSpec.upto settleKeepsCellsSpec)) settleKeepsCellsUptoCard

/-- THE SECOND FORM's CARD OF 'voxellaw30.SettleDescends'. -/
def settleDescendsUptoCard : Claim7 := { stood := { row := settleDescendsUptoRow, standIns := [], harness := (true, "7617442a9ef1c376c4056c972e7147e4eacf4a41aa3cf2f69184f577ce24d48a"), looks := false }, kinds := [], alts := [], laidByText := true, laidKinds := [.data], laidTests := true, laidLooks := .later }
def SettleDescendsUptoCardSaid : Prop := Claim7.holds Tryd.pinned (.plain (OpenSpec.upto settleDescendsSpec)) settleDescendsUptoCard

/-- THE SECOND FORM's CARD OF 'voxellaw30.SettleEnds'. -/
def settleEndsUptoCard : Claim7 := { stood := { row := settleEndsUptoRow, standIns := [], harness := (true, "7617442a9ef1c376c4056c972e7147e4eacf4a41aa3cf2f69184f577ce24d48a"), looks := false }, kinds := [], alts := [], laidByText := true, laidKinds := [.data], laidTests := true, laidLooks := .later }
def SettleEndsUptoCardSaid : Prop := Claim7.holds Tryd.pinned (.plain (OpenSpec.upto settleEndsSpec)) settleEndsUptoCard

/-- THE SECOND FORM's CARD OF 'voxellaw30.SettleByTheClock'. -/
def settleByTheClockUptoCard : Claim7 := { stood := { row := settleByTheClockUptoRow, standIns := [], harness := (true, "7617442a9ef1c376c4056c972e7147e4eacf4a41aa3cf2f69184f577ce24d48a"), looks := false }, kinds := [], alts := [], laidByText := true, laidKinds := [.data], laidTests := true, laidLooks := .later }
def SettleByTheClockUptoCardSaid : Prop := Claim7.holds Tryd.pinned (.plain (OpenSpec.upto settleByTheClockSpec)) settleByTheClockUptoCard
end Rows
end Go.Proofs.YtgbaelpcbhgdjaaDoor
