/-
  DERIVED. GIVEN WITH THE SEED: THE CARDS: each row of YtneokajhmonpaaaDoorRows.lean that lists a variable, with what it lists TIED to the program's text (the seventh form; the later family's looks); each row that meets fmt, with fmt's text TOLD by the authors' own Lean function (tested against real Go, not proved from fmt's source: count such statements apart). THE CARD IS WHAT COUNTS. Prove the row's statement (the work); the ties are given (YtneokajhmonpaaaDoorTie.lean); close each card by the builder's one call (the guide's Derived/Test/ToyasCard.lean, 'card_holds'). Laid BY PROGRAM, IN A SANDBOX (cutbox-door.mjs). By AI agents, Wed Nov 11 2026. No macro, syntax, notation, axiom, sorry.
-/
import Derived.Test.YtneokajhmonpaaaDoorRows
import GoSem.ClaimSeven
namespace Go.Proofs.YtneokajhmonpaaaDoor
namespace Rows

/-- THE TIED CARD OF 'chartroomlaw30.StoreChains'. -/
def storeChainsCard : Claim7 := { stood := { row := storeChainsRow, standIns := [], harness := (true, "4304e63d1c3e393a269d5c046be61e81812452e54d48abbd1eff1f8f380bf226"), looks := false }, kinds := [], alts := [], laidByText := true, laidKinds := [.data, .data], laidTests := true, laidLooks := .later }
def StoreChainsCardSaid : Prop := Claim7.holds Tryd.pinned (.plain (OpenSpec.ofChange storeChainsSpec)) storeChainsCard

/-- THE TIED CARD OF 'chartroomlaw30.StoreOnce'. -/
def storeOnceCard : Claim7 := { stood := { row := storeOnceRow, standIns := [], harness := (true, "4304e63d1c3e393a269d5c046be61e81812452e54d48abbd1eff1f8f380bf226"), looks := false }, kinds := [], alts := [], laidByText := true, laidKinds := [.data, .data], laidTests := true, laidLooks := .later }
def StoreOnceCardSaid : Prop := Claim7.holds Tryd.pinned (.plain (OpenSpec.ofChange storeOnceSpec)) storeOnceCard

/-- THE TIED CARD OF 'chartroomlaw30.StoreApart'. -/
def storeApartCard : Claim7 := { stood := { row := storeApartRow, standIns := [], harness := (true, "4304e63d1c3e393a269d5c046be61e81812452e54d48abbd1eff1f8f380bf226"), looks := false }, kinds := [], alts := [], laidByText := true, laidKinds := [.data, .data], laidTests := true, laidLooks := .later }
def StoreApartCardSaid : Prop := Claim7.holds Tryd.pinned (.plain (OpenSpec.ofChange storeApartSpec)) storeApartCard

/-- THE TIED CARD OF 'chartroomlaw30.StoreHeads'. -/
def storeHeadsCard : Claim7 := { stood := { row := storeHeadsRow, standIns := [], harness := (true, "4304e63d1c3e393a269d5c046be61e81812452e54d48abbd1eff1f8f380bf226"), looks := false }, kinds := [], alts := [], laidByText := true, laidKinds := [.data, .data], laidTests := true, laidLooks := .later }
def StoreHeadsCardSaid : Prop := Claim7.holds Tryd.pinned (.plain (OpenSpec.ofChange storeHeadsSpec)) storeHeadsCard

/-- THE TIED CARD OF 'chartroomlaw32.ViewsHonest'. -/
def viewsHonestCard : Claim7 := { stood := { row := viewsHonestRow, standIns := [], harness := (true, "4304e63d1c3e393a269d5c046be61e81812452e54d48abbd1eff1f8f380bf226"), looks := false }, kinds := [], alts := [], laidByText := true, laidKinds := [.data, .data], laidTests := true, laidLooks := .later }
def ViewsHonestCardSaid : Prop := Claim7.holds Tryd.pinned (.plain (OpenSpec.ofChange viewsHonestSpec)) viewsHonestCard

/-- THE TIED CARD OF 'chartroomlaw32.ViewsCaught'. -/
def viewsCaughtCard : Claim7 := { stood := { row := viewsCaughtRow, standIns := [], harness := (true, "4304e63d1c3e393a269d5c046be61e81812452e54d48abbd1eff1f8f380bf226"), looks := false }, kinds := [], alts := [], laidByText := true, laidKinds := [.data, .data], laidTests := true, laidLooks := .later }
def ViewsCaughtCardSaid : Prop := Claim7.holds Tryd.pinned (.plain (OpenSpec.ofChange viewsCaughtSpec)) viewsCaughtCard

/-- THE TIED CARD OF 'chartroomlaw32.ViewsInnocent'. -/
def viewsInnocentCard : Claim7 := { stood := { row := viewsInnocentRow, standIns := [], harness := (true, "4304e63d1c3e393a269d5c046be61e81812452e54d48abbd1eff1f8f380bf226"), looks := false }, kinds := [], alts := [], laidByText := true, laidKinds := [.data, .data], laidTests := true, laidLooks := .later }
def ViewsInnocentCardSaid : Prop := Claim7.holds Tryd.pinned (.plain (OpenSpec.ofChange viewsInnocentSpec)) viewsInnocentCard

/-- THE TIED CARD OF 'chartroomlaw32.ViewsRemember'. -/
def viewsRememberCard : Claim7 := { stood := { row := viewsRememberRow, standIns := [], harness := (true, "4304e63d1c3e393a269d5c046be61e81812452e54d48abbd1eff1f8f380bf226"), looks := false }, kinds := [], alts := [], laidByText := true, laidKinds := [.data, .data], laidTests := true, laidLooks := .later }
def ViewsRememberCardSaid : Prop := Claim7.holds Tryd.pinned (.plain (OpenSpec.ofChange viewsRememberSpec)) viewsRememberCard

/-- THE SECOND FORM's CARD OF 'chartroomlaw30.StoreChains'. -/
def storeChainsUptoCard : Claim7 := { stood := { row := storeChainsUptoRow, standIns := [], harness := (true, "4304e63d1c3e393a269d5c046be61e81812452e54d48abbd1eff1f8f380bf226"), looks := false }, kinds := [], alts := [], laidByText := true, laidKinds := [.data, .data], laidTests := true, laidLooks := .later }
def StoreChainsUptoCardSaid : Prop := Claim7.holds Tryd.pinned (.plain (OpenSpec.upto storeChainsSpec)) storeChainsUptoCard

/-- THE SECOND FORM's CARD OF 'chartroomlaw30.StoreOnce'. -/
def storeOnceUptoCard : Claim7 := { stood := { row := storeOnceUptoRow, standIns := [], harness := (true, "4304e63d1c3e393a269d5c046be61e81812452e54d48abbd1eff1f8f380bf226"), looks := false }, kinds := [], alts := [], laidByText := true, laidKinds := [.data, .data], laidTests := true, laidLooks := .later }
def StoreOnceUptoCardSaid : Prop := Claim7.holds Tryd.pinned (.plain (OpenSpec.upto storeOnceSpec)) storeOnceUptoCard

/-- THE SECOND FORM's CARD OF 'chartroomlaw30.StoreApart'. -/
def storeApartUptoCard : Claim7 := { stood := { row := storeApartUptoRow, standIns := [], harness := (true, "4304e63d1c3e393a269d5c046be61e81812452e54d48abbd1eff1f8f380bf226"), looks := false }, kinds := [], alts := [], laidByText := true, laidKinds := [.data, .data], laidTests := true, laidLooks := .later }
def StoreApartUptoCardSaid : Prop := Claim7.holds Tryd.pinned (.plain (OpenSpec.upto storeApartSpec)) storeApartUptoCard

/-- THE SECOND FORM's CARD OF 'chartroomlaw30.StoreHeads'. -/
def storeHeadsUptoCard : Claim7 := { stood := { row := storeHeadsUptoRow, standIns := [], harness := (true, "4304e63d1c3e393a269d5c046be61e81812452e54d48abbd1eff1f8f380bf226"), looks := false }, kinds := [], alts := [], laidByText := true, laidKinds := [.data, .data], laidTests := true, laidLooks := .later }
def StoreHeadsUptoCardSaid : Prop := Claim7.holds Tryd.pinned (.plain (OpenSpec.upto storeHeadsSpec)) storeHeadsUptoCard

/-- THE SECOND FORM's CARD OF 'chartroomlaw32.ViewsHonest'. -/
def viewsHonestUptoCard : Claim7 := { stood := { row := viewsHonestUptoRow, standIns := [], harness := (true, "4304e63d1c3e393a269d5c046be61e81812452e54d48abbd1eff1f8f380bf226"), looks := false }, kinds := [], alts := [], laidByText := true, laidKinds := [.data, .data], laidTests := true, laidLooks := .later }
def ViewsHonestUptoCardSaid : Prop := Claim7.holds Tryd.pinned (.plain (OpenSpec.upto viewsHonestSpec)) viewsHonestUptoCard

/-- THE SECOND FORM's CARD OF 'chartroomlaw32.ViewsCaught'. -/
def viewsCaughtUptoCard : Claim7 := { stood := { row := viewsCaughtUptoRow, standIns := [], harness := (true, "4304e63d1c3e393a269d5c046be61e81812452e54d48abbd1eff1f8f380bf226"), looks := false }, kinds := [], alts := [], laidByText := true, laidKinds := [.data, .data], laidTests := true, laidLooks := .later }
def ViewsCaughtUptoCardSaid : Prop := Claim7.holds Tryd.pinned (.plain (OpenSpec.upto viewsCaughtSpec)) viewsCaughtUptoCard

/-- THE SECOND FORM's CARD OF 'chartroomlaw32.ViewsInnocent'. -/
def viewsInnocentUptoCard : Claim7 := { stood := { row := viewsInnocentUptoRow, standIns := [], harness := (true, "4304e63d1c3e393a269d5c046be61e81812452e54d48abbd1eff1f8f380bf226"), looks := false }, kinds := [], alts := [], laidByText := true, laidKinds := [.data, .data], laidTests := true, laidLooks := .later }
def ViewsInnocentUptoCardSaid : Prop := Claim7.holds Tryd.pinned (.plain (OpenSpec.upto viewsInnocentSpec)) viewsInnocentUptoCard

/-- THE SECOND FORM's CARD OF 'chartroomlaw32.ViewsRemember'. -/
def viewsRememberUptoCard : Claim7 := { stood := { row := viewsRememberUptoRow, standIns := [], harness := (true, "4304e63d1c3e393a269d5c046be61e81812452e54d48abbd1eff1f8f380bf226"), looks := false }, kinds := [], alts := [], laidByText := true, laidKinds := [.data, .data], laidTests := true, laidLooks := .later }
def ViewsRememberUptoCardSaid : Prop := Claim7.holds Tryd.pinned (.plain (OpenSpec.upto viewsRememberSpec)) viewsRememberUptoCard
end Rows
end Go.Proofs.YtneokajhmonpaaaDoor
