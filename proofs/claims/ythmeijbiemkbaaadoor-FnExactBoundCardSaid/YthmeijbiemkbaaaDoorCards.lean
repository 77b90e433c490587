/-
  DERIVED. GIVEN WITH THE SEED: THE CARDS: each row of YthmeijbiemkbaaaDoorRows.lean that lists a variable, with what it lists TIED to the program's text (the seventh form; the later family's looks); each row that meets fmt, with fmt's text TOLD by the authors' own Lean function (tested against real Go, not proved from fmt's source: count such statements apart). THE CARD IS WHAT COUNTS. Prove the row's statement (the work); the ties are given (YthmeijbiemkbaaaDoorTie.lean); close each card by the builder's one call (the guide's Derived/Test/ToyasCard.lean, 'card_holds'). Laid BY PROGRAM, IN A SANDBOX (cutbox-door.mjs). By AI agents, Wed Nov 11 2026. No macro, syntax, notation, axiom, sorry.
-/
import Derived.Test.YthmeijbiemkbaaaDoorRows
import GoSem.ClaimSeven
namespace Go.Proofs.YthmeijbiemkbaaaDoor
namespace Rows

/-- THE TIED CARD OF 'laws.FnExactChainOf'. -/
def fnExactChainOfCard : Claim7 := { stood := { row := fnExactChainOfRow, standIns := [], harness := (true, "e4fcf720e98eddd4046a34c6b04740cefb66adfc0fd7e53cad9da6c6e5660fd4"), looks := false }, kinds := [], alts := [], laidByText := true, laidKinds := [.data, .pinned], laidTests := true, laidLooks := .later }
def FnExactChainOfCardSaid : Prop := Claim7.holds Tryd.pinned (.plain (OpenSpec.ofChange fnExactChainOfSpec)) fnExactChainOfCard

/-- THE TIED CARD OF 'laws.FnExactShopOK'. -/
def fnExactShopOKCard : Claim7 := { stood := { row := fnExactShopOKRow, standIns := [], harness := (true, "e4fcf720e98eddd4046a34c6b04740cefb66adfc0fd7e53cad9da6c6e5660fd4"), looks := false }, kinds := [], alts := [], laidByText := true, laidKinds := [.data, .pinned], laidTests := true, laidLooks := .later }
def FnExactShopOKCardSaid : Prop := Claim7.holds Tryd.pinned (.plain (OpenSpec.ofChange fnExactShopOKSpec)) fnExactShopOKCard

/-- THE TIED CARD OF 'laws.FnExactBound'. -/
def fnExactBoundCard : Claim7 := { stood := { row := fnExactBoundRow, standIns := [], harness := (true, "e4fcf720e98eddd4046a34c6b04740cefb66adfc0fd7e53cad9da6c6e5660fd4"), looks := false }, kinds := [], alts := [], laidByText := true, laidKinds := [.data, .pinned], laidTests := true, laidLooks := .later }
def FnExactBoundCardSaid : Prop := Claim7.holds Tryd.pinned (.plain (OpenSpec.ofChange fnExactBoundSpec)) fnExactBoundCard

/-- THE TIED CARD OF 'laws.FnExactChainSafe'. -/
def fnExactChainSafeCard : Claim7 := { stood := { row := fnExactChainSafeRow, standIns := [], harness := (true, "e4fcf720e98eddd4046a34c6b04740cefb66adfc0fd7e53cad9da6c6e5660fd4"), looks := false }, kinds := [], alts := [], laidByText := true, laidKinds := [.data, .pinned], laidTests := true, laidLooks := .later }
def FnExactChainSafeCardSaid : Prop := Claim7.holds Tryd.pinned (.plain (OpenSpec.ofChange fnExactChainSafeSpec)) fnExactChainSafeCard

/-- THE SECOND FORM's CARD OF 'laws.FnExactChainOf'. -/
def fnExactChainOfUptoCard : Claim7 := { stood := { row := fnExactChainOfUptoRow, standIns := [], harness := (true, "e4fcf720e98eddd4046a34c6b04740cefb66adfc0fd7e53cad9da6c6e5660fd4"), looks := false }, kinds := [], alts := [], laidByText := true, laidKinds := [.data, .pinned], laidTests := true, laidLooks := .later }
def FnExactChainOfUptoCardSaid : Prop := Claim7.holds Tryd.pinned (.plain (OpenSpec.upto fnExactChainOfSpec)) fnExactChainOfUptoCard

/-- THE SECOND FORM's CARD OF 'laws.FnExactShopOK'. -/
def fnExactShopOKUptoCard : Claim7 := { stood := { row := fnExactShopOKUptoRow, standIns := [], harness := (true, "e4fcf720e98eddd4046a34c6b04740cefb66adfc0fd7e53cad9da6c6e5660fd4"), looks := false }, kinds := [], alts := [], laidByText := true, laidKinds := [.data, .pinned], laidTests := true, laidLooks := .later }
def FnExactShopOKUptoCardSaid : Prop := Claim7.holds Tryd.pinned (.plain (OpenSpec.upto fnExactShopOKSpec)) fnExactShopOKUptoCard

/-- THE SECOND FORM's CARD OF 'laws.FnExactBound'. -/
def fnExactBoundUptoCard : Claim7 := { stood := { row := fnExactBoundUptoRow, standIns := [], harness := (true, "e4fcf720e98eddd4046a34c6b04740cefb66adfc0fd7e53cad9da6c6e5660fd4"), looks := false }, kinds := [], alts := [], laidByText := true, laidKinds := [.data, .pinned], laidTests := true, laidLooks := .later }
def FnExactBoundUptoCardSaid : Prop := Claim7.holds Tryd.pinned (.plain (OpenSpec.upto fnExactBoundSpec)) fnExactBoundUptoCard

/-- THE SECOND FORM's CARD OF 'laws.FnExactChainSafe'. -/
def fnExactChainSafeUptoCard : Claim7 := { stood := { row := fnExactChainSafeUptoRow, standIns := [], harness := (true, "e4fcf720e98eddd4046a34c6b04740cefb66adfc0fd7e53cad9da6c6e5660fd4"), looks := false }, kinds := [], alts := [], laidByText := true, laidKinds := [.data, .pinned], laidTests := true, laidLooks := .later }
def FnExactChainSafeUptoCardSaid : Prop := Claim7.holds Tryd.pinned (.plain (OpenSpec.upto fnExactChainSafeSpec)) fnExactChainSafeUptoCard
end Rows
end Go.Proofs.YthmeijbiemkbaaaDoor
