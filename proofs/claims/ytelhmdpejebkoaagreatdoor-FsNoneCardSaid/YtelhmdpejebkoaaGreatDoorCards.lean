/-
  DERIVED. GIVEN WITH THE SEED: THE CARDS: each row of YtelhmdpejebkoaaGreatDoorRows.lean that lists a variable, with what it lists TIED to the program's text (the seventh form; the later family's looks); each row that meets fmt, with fmt's text TOLD by the authors' own Lean function (tested against real Go, not proved from fmt's source: count such statements apart). THE CARD IS WHAT COUNTS. Prove the row's statement (the work); the ties are given (YtelhmdpejebkoaaGreatDoorTie.lean); close each card by the builder's one call (the guide's Derived/Test/ToyasCard.lean, 'card_holds'). Laid BY PROGRAM, IN A SANDBOX (cutbox-door.mjs). By AI agents, Wed Nov 11 2026. No macro, syntax, notation, axiom, sorry.
-/
import Derived.Test.YtelhmdpejebkoaaGreatDoorRows
import GoSem.ClaimSeven
namespace Go.Proofs.YtelhmdpejebkoaaGreatDoor
namespace Rows

/-- THE TIED CARD OF 'onionskinlaw31.FsckNone'. -/
def fsckNoneCard : Claim7 := { stood := { row := fsckNoneRow, standIns := [], harness := (true, "07fa8eb9a56066c426a5ae85ac6dce640227fc06034700ad16d5dbf8455e7ac0"), looks := false }, kinds := [], alts := [], laidByText := true, laidKinds := [.data, .pinned], laidTests := true, laidLooks := .later }
def FsckNoneCardSaid : Prop := Claim7.holds Tryz.pinned (.plain (OpenSpec.ofChange fsckNoneSpec)) fsckNoneCard

/-- THE TIED CARD OF 'onionskinlaw30.FsForms'. -/
def fsFormsCard : Claim7 := { stood := { row := fsFormsRow, standIns := [], harness := (true, "07fa8eb9a56066c426a5ae85ac6dce640227fc06034700ad16d5dbf8455e7ac0"), looks := false }, kinds := [], alts := [], laidByText := true, laidKinds := [.data, .pinned], laidTests := true, laidLooks := .later }
def FsFormsCardSaid : Prop := Claim7.holds Tryz.pinned (.plain (OpenSpec.ofChange fsFormsSpec)) fsFormsCard

/-- THE TIED CARD OF 'onionskinlaw30.FsNone'. -/
def fsNoneCard : Claim7 := { stood := { row := fsNoneRow, standIns := [], harness := (true, "07fa8eb9a56066c426a5ae85ac6dce640227fc06034700ad16d5dbf8455e7ac0"), looks := false }, kinds := [], alts := [], laidByText := true, laidKinds := [.data, .pinned], laidTests := true, laidLooks := .later }
def FsNoneCardSaid : Prop := Claim7.holds Tryz.pinned (.plain (OpenSpec.ofChange fsNoneSpec)) fsNoneCard

/-- THE TIED CARD OF 'onionskinlaw41.BootSame'. -/
def bootSameCard : Claim7 := { stood := { row := bootSameRow, standIns := [], harness := (true, "07fa8eb9a56066c426a5ae85ac6dce640227fc06034700ad16d5dbf8455e7ac0"), looks := false }, kinds := [], alts := [], laidByText := true, laidKinds := [.data, .pinned], laidTests := true, laidLooks := .later }
def BootSameCardSaid : Prop := Claim7.holds Tryz.pinned (.plain (OpenSpec.ofChange bootSameSpec)) bootSameCard

/-- THE SECOND FORM's CARD OF 'onionskinlaw31.FsckNone'. -/
def fsckNoneUptoCard : Claim7 := { stood := { row := fsckNoneUptoRow, standIns := [], harness := (true, "07fa8eb9a56066c426a5ae85ac6dce640227fc06034700ad16d5dbf8455e7ac0"), looks := false }, kinds := [], alts := [], laidByText := true, laidKinds := [.data, .pinned], laidTests := true, laidLooks := .later }
def FsckNoneUptoCardSaid : Prop := Claim7.holds Tryz.pinned (.plain (OpenSpec.upto fsckNoneSpec)) fsckNoneUptoCard

/-- THE SECOND FORM's CARD OF 'onionskinlaw30.FsForms'. -/
def fsFormsUptoCard : Claim7 := { stood := { row := fsFormsUptoRow, standIns := [], harness := (true, "07fa8eb9a56066c426a5ae85ac6dce640227fc06034700ad16d5dbf8455e7ac0"), looks := false }, kinds := [], alts := [], laidByText := true, laidKinds := [.data, .pinned], laidTests := true, laidLooks := .later }
def FsFormsUptoCardSaid : Prop := Claim7.holds Tryz.pinned (.plain (OpenSpec.upto fsFormsSpec)) fsFormsUptoCard

/-- THE SECOND FORM's CARD OF 'onionskinlaw30.FsNone'. -/
def fsNoneUptoCard : Claim7 := { stood := { row := fsNoneUptoRow, standIns := [], harness := (true, "07fa8eb9a56066c426a5ae85ac6dce640227fc06034700ad16d5dbf8455e7ac0"), looks := false }, kinds := [], alts := [], laidByText := true, laidKinds := [.data, .pinned], laidTests := true, laidLooks := .later }
def FsNoneUptoCardSaid : Prop := Claim7.holds Tryz.pinned (.plain (OpenSpec.upto fsNoneSpec)) fsNoneUptoCard

/-- THE SECOND FORM's CARD OF 'onionskinlaw41.BootSame'. -/
def bootSameUptoCard : Claim7 := { stood := { row := bootSameUptoRow, standIns := [], harness := (true, "07fa8eb9a56066c426a5ae85ac6dce640227fc06034700ad16d5dbf8455e7ac0"), looks := false }, kinds := [], alts := [], laidByText := true, laidKinds := [.data, .pinned], laidTests := true, laidLooks := .later }
def BootSameUptoCardSaid : Prop := Claim7.holds Tryz.pinned (.plain (OpenSpec.upto bootSameSpec)) bootSameUptoCard
end Rows
end Go.Proofs.YtelhmdpejebkoaaGreatDoor
