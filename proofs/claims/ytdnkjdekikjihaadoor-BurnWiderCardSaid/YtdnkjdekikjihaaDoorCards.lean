/-
  DERIVED. GIVEN WITH THE SEED: THE CARDS: each row of YtdnkjdekikjihaaDoorRows.lean that lists a variable, with what it lists TIED to the program's text (the seventh form; the later family's looks); each row that meets fmt, with fmt's text TOLD by the authors' own Lean function (tested against real Go, not proved from fmt's source: count such statements apart). THE CARD IS WHAT COUNTS. Prove the row's statement (the work); the ties are given (YtdnkjdekikjihaaDoorTie.lean); close each card by the builder's one call (the guide's Derived/Test/ToyasCard.lean, 'card_holds'). Laid BY PROGRAM, IN A SANDBOX (cutbox-door.mjs). By AI agents, Wed Nov 11 2026. No macro, syntax, notation, axiom, sorry.
-/
import Derived.Test.YtdnkjdekikjihaaDoorRows
import GoSem.ClaimSeven
namespace Go.Proofs.YtdnkjdekikjihaaDoor
namespace Rows

/-- THE TIED CARD OF 'cottonpadlaw04.BurnWider'. -/
def burnWiderCard : Claim7 := { stood := { row := burnWiderRow, standIns := [], harness := (true, "0ca5a9d51aa89878dfaa674986366ffc4c3efcc90aea3a4ae78c97c4fa3aeeed"), looks := true }, kinds := [], alts := [], laidByText := true, laidKinds := [.funcs], laidTests := true, laidLooks := .later }
def BurnWiderCardSaid : Prop := Claim7.holds Tryd.pinned (.plain (OpenSpec.ofChange burnWiderSpec)) burnWiderCard

/-- THE TIED CARD OF 'cottonpadlaw10.CardCerts'. -/
def cardCertsCard : Claim7 := { stood := { row := cardCertsRow, standIns := [], harness := (true, "0ca5a9d51aa89878dfaa674986366ffc4c3efcc90aea3a4ae78c97c4fa3aeeed"), looks := true }, kinds := [], alts := [], laidByText := true, laidKinds := [.data, .data, .data, .data, .sentinel, .sentinel, .pinned], laidTests := true, laidLooks := .later }
def CardCertsCardSaid : Prop := Claim7.holds Tryd.pinned (.plain (OpenSpec.ofChange cardCertsSpec)) cardCertsCard

/-- THE SECOND FORM's CARD OF 'cottonpadlaw04.BurnWider'. -/
def burnWiderUptoCard : Claim7 := { stood := { row := burnWiderUptoRow, standIns := [], harness := (true, "0ca5a9d51aa89878dfaa674986366ffc4c3efcc90aea3a4ae78c97c4fa3aeeed"), looks := true }, kinds := [], alts := [], laidByText := true, laidKinds := [.funcs], laidTests := true, laidLooks := .later }
def BurnWiderUptoCardSaid : Prop := Claim7.holds Tryd.pinned (.plain (OpenSpec.upto burnWiderSpec)) burnWiderUptoCard

/-- THE SECOND FORM's CARD OF 'cottonpadlaw10.CardCerts'. -/
def cardCertsUptoCard : Claim7 := { stood := { row := cardCertsUptoRow, standIns := [], harness := (true, "0ca5a9d51aa89878dfaa674986366ffc4c3efcc90aea3a4ae78c97c4fa3aeeed"), looks := true }, kinds := [], alts := [], laidByText := true, laidKinds := [.data, .data, .data, .data, .sentinel, .sentinel, .pinned], laidTests := true, laidLooks := .later }
def CardCertsUptoCardSaid : Prop := Claim7.holds Tryd.pinned (.plain (OpenSpec.upto cardCertsSpec)) cardCertsUptoCard
end Rows
end Go.Proofs.YtdnkjdekikjihaaDoor
