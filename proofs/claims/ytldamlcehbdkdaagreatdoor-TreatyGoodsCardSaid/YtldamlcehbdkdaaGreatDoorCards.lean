/-
  DERIVED. GIVEN WITH THE SEED: THE CARDS: each row of YtldamlcehbdkdaaGreatDoorRows.lean that lists a variable, with what it lists TIED to the program's text (the seventh form; the later family's looks); each row that meets fmt, with fmt's text TOLD by the authors' own Lean function (tested against real Go, not proved from fmt's source: count such statements apart). THE CARD IS WHAT COUNTS. Prove the row's statement (the work); the ties are given (YtldamlcehbdkdaaGreatDoorTie.lean); close each card by the builder's one call (the guide's Derived/Test/ToyasCard.lean, 'card_holds'). Laid BY PROGRAM, IN A SANDBOX (cutbox-door.mjs). By AI agents, Wed Nov 11 2026. No macro, syntax, notation, axiom, sorry.
-/
import Derived.Test.YtldamlcehbdkdaaGreatDoorRows
import GoSem.ClaimSeven
namespace Go.Proofs.YtldamlcehbdkdaaGreatDoor
namespace Rows

/-- THE TIED CARD OF 'touchmarklaw05.UseGoods'. -/
def useGoodsCard : Claim7 := { stood := { row := useGoodsRow, standIns := [], harness := (true, "08cd2569e31efb2071eaa3d5845cf16d406fab8aded5a3a5b83399787ffb65a8"), looks := false }, kinds := [], alts := [], goes := true, laidByText := true, laidKinds := [.funcs], laidTests := true, laidLooks := .later }
def UseGoodsCardSaid : Prop := Claim7.holds Tryz.pinned (.plain (OpenSpec.ofChange useGoodsSpec)) useGoodsCard

/-- THE TIED CARD OF 'touchmarklaw05.UseRival'. -/
def useRivalCard : Claim7 := { stood := { row := useRivalRow, standIns := [], harness := (true, "08cd2569e31efb2071eaa3d5845cf16d406fab8aded5a3a5b83399787ffb65a8"), looks := false }, kinds := [], alts := [], goes := true, laidByText := true, laidKinds := [.funcs, .funcs], laidTests := true, laidLooks := .later }
def UseRivalCardSaid : Prop := Claim7.holds Tryz.pinned (.plain (OpenSpec.ofChange useRivalSpec)) useRivalCard

/-- THE TIED CARD OF 'touchmarklaw05.UseKin'. -/
def useKinCard : Claim7 := { stood := { row := useKinRow, standIns := [], harness := (true, "08cd2569e31efb2071eaa3d5845cf16d406fab8aded5a3a5b83399787ffb65a8"), looks := false }, kinds := [], alts := [], goes := true, laidByText := true, laidKinds := [.funcs], laidTests := true, laidLooks := .later }
def UseKinCardSaid : Prop := Claim7.holds Tryz.pinned (.plain (OpenSpec.ofChange useKinSpec)) useKinCard

/-- THE TIED CARD OF 'touchmarklaw07.TreatyUsed'. -/
def treatyUsedCard : Claim7 := { stood := { row := treatyUsedRow, standIns := [], harness := (true, "08cd2569e31efb2071eaa3d5845cf16d406fab8aded5a3a5b83399787ffb65a8"), looks := false }, kinds := [], alts := [], goes := true, laidByText := true, laidKinds := [.data, .funcsDeep, .funcs], laidTests := true, laidLooks := .later }
def TreatyUsedCardSaid : Prop := Claim7.holds Tryz.pinned (.plain (OpenSpec.ofChange treatyUsedSpec)) treatyUsedCard

/-- THE TIED CARD OF 'touchmarklaw07.TreatyRival'. -/
def treatyRivalCard : Claim7 := { stood := { row := treatyRivalRow, standIns := [], harness := (true, "08cd2569e31efb2071eaa3d5845cf16d406fab8aded5a3a5b83399787ffb65a8"), looks := false }, kinds := [], alts := [], goes := true, laidByText := true, laidKinds := [.funcs, .data, .funcsDeep], laidTests := true, laidLooks := .later }
def TreatyRivalCardSaid : Prop := Claim7.holds Tryz.pinned (.plain (OpenSpec.ofChange treatyRivalSpec)) treatyRivalCard

/-- THE TIED CARD OF 'touchmarklaw07.TreatyGoods'. -/
def treatyGoodsCard : Claim7 := { stood := { row := treatyGoodsRow, standIns := [], harness := (true, "08cd2569e31efb2071eaa3d5845cf16d406fab8aded5a3a5b83399787ffb65a8"), looks := false }, kinds := [], alts := [], goes := true, laidByText := true, laidKinds := [.data, .funcsDeep], laidTests := true, laidLooks := .later }
def TreatyGoodsCardSaid : Prop := Claim7.holds Tryz.pinned (.plain (OpenSpec.ofChange treatyGoodsSpec)) treatyGoodsCard

/-- THE TIED CARD OF 'touchmarklaw05.UseAgreed'. -/
def useAgreedCard : Claim7 := { stood := { row := useAgreedRow, standIns := [], harness := (true, "08cd2569e31efb2071eaa3d5845cf16d406fab8aded5a3a5b83399787ffb65a8"), looks := false }, kinds := [], alts := [], goes := true, laidByText := true, laidKinds := [.funcs], laidTests := true, laidLooks := .later }
def UseAgreedCardSaid : Prop := Claim7.holds Tryz.pinned (.plain (OpenSpec.ofChange useAgreedSpec)) useAgreedCard

/-- THE TIED CARD OF 'touchmarklaw07.TreatyAgreed'. -/
def treatyAgreedCard : Claim7 := { stood := { row := treatyAgreedRow, standIns := [], harness := (true, "08cd2569e31efb2071eaa3d5845cf16d406fab8aded5a3a5b83399787ffb65a8"), looks := false }, kinds := [], alts := [], goes := true, laidByText := true, laidKinds := [.data, .funcsDeep], laidTests := true, laidLooks := .later }
def TreatyAgreedCardSaid : Prop := Claim7.holds Tryz.pinned (.plain (OpenSpec.ofChange treatyAgreedSpec)) treatyAgreedCard

/-- THE SECOND FORM's CARD OF 'touchmarklaw05.UseGoods'. -/
def useGoodsUptoCard : Claim7 := { stood := { row := useGoodsUptoRow, standIns := [], harness := (true, "08cd2569e31efb2071eaa3d5845cf16d406fab8aded5a3a5b83399787ffb65a8"), looks := false }, kinds := [], alts := [], goes := true, laidByText := true, laidKinds := [.funcs], laidTests := true, laidLooks := .later }
def UseGoodsUptoCardSaid : Prop := Claim7.holds Tryz.pinned (.plain (OpenSpec.upto useGoodsSpec)) useGoodsUptoCard

/-- THE SECOND FORM's CARD OF 'touchmarklaw05.UseRival'. -/
def useRivalUptoCard : Claim7 := { stood := { row := useRivalUptoRow, standIns := [], harness := (true, "08cd2569e31efb2071eaa3d5845cf16d406fab8aded5a3a5b83399787ffb65a8"), looks := false }, kinds := [], alts := [], goes := true, laidByText := true, laidKinds := [.funcs, .funcs], laidTests := true, laidLooks := .later }
def UseRivalUptoCardSaid : Prop := Claim7.holds Tryz.pinned (.plain (OpenSpec.upto useRivalSpec)) useRivalUptoCard

/-- THE SECOND FORM's CARD OF 'touchmarklaw05.UseKin'. -/
def useKinUptoCard : Claim7 := { stood := { row := useKinUptoRow, standIns := [], harness := (true, "08cd2569e31efb2071eaa3d5845cf16d406fab8aded5a3a5b83399787ffb65a8"), looks := false }, kinds := [], alts := [], goes := true, laidByText := true, laidKinds := [.funcs], laidTests := true, laidLooks := .later }
def UseKinUptoCardSaid : Prop := Claim7.holds Tryz.pinned (.plain (OpenSpec.upto useKinSpec)) useKinUptoCard

/-- THE SECOND FORM's CARD OF 'touchmarklaw07.TreatyUsed'. -/
def treatyUsedUptoCard : Claim7 := { stood := { row := treatyUsedUptoRow, standIns := [], harness := (true, "08cd2569e31efb2071eaa3d5845cf16d406fab8aded5a3a5b83399787ffb65a8"), looks := false }, kinds := [], alts := [], goes := true, laidByText := true, laidKinds := [.data, .funcsDeep, .funcs], laidTests := true, laidLooks := .later }
def TreatyUsedUptoCardSaid : Prop := Claim7.holds Tryz.pinned (.plain (OpenSpec.upto treatyUsedSpec)) treatyUsedUptoCard

/-- THE SECOND FORM's CARD OF 'touchmarklaw07.TreatyRival'. -/
def treatyRivalUptoCard : Claim7 := { stood := { row := treatyRivalUptoRow, standIns := [], harness := (true, "08cd2569e31efb2071eaa3d5845cf16d406fab8aded5a3a5b83399787ffb65a8"), looks := false }, kinds := [], alts := [], goes := true, laidByText := true, laidKinds := [.funcs, .data, .funcsDeep], laidTests := true, laidLooks := .later }
def TreatyRivalUptoCardSaid : Prop := Claim7.holds Tryz.pinned (.plain (OpenSpec.upto treatyRivalSpec)) treatyRivalUptoCard

/-- THE SECOND FORM's CARD OF 'touchmarklaw07.TreatyGoods'. -/
def treatyGoodsUptoCard : Claim7 := { stood := { row := treatyGoodsUptoRow, standIns := [], harness := (true, "08cd2569e31efb2071eaa3d5845cf16d406fab8aded5a3a5b83399787ffb65a8"), looks := false }, kinds := [], alts := [], goes := true, laidByText := true, laidKinds := [.data, .funcsDeep], laidTests := true, laidLooks := .later }
def TreatyGoodsUptoCardSaid : Prop := Claim7.holds Tryz.pinned (.plain (OpenSpec.upto treatyGoodsSpec)) treatyGoodsUptoCard

/-- THE SECOND FORM's CARD OF 'touchmarklaw05.UseAgreed'. -/
def useAgreedUptoCard : Claim7 := { stood := { row := useAgreedUptoRow, standIns := [], harness := (true, "08cd2569e31efb2071eaa3d5845cf16d406fab8aded5a3a5b83399787ffb65a8"), looks := false }, kinds := [], alts := [], goes := true, laidByText := true, laidKinds := [.funcs], laidTests := true, laidLooks := .later }
def UseAgreedUptoCardSaid : Prop := Claim7.holds Tryz.pinned (.plain (OpenSpec.upto useAgreedSpec)) useAgreedUptoCard

/-- THE SECOND FORM's CARD OF 'touchmarklaw07.TreatyAgreed'. -/
def treatyAgreedUptoCard : Claim7 := { stood := { row := treatyAgreedUptoRow, standIns := [], harness := (true, "08cd2569e31efb2071eaa3d5845cf16d406fab8aded5a3a5b83399787ffb65a8"), looks := false }, kinds := [], alts := [], goes := true, laidByText := true, laidKinds := [.data, .funcsDeep], laidTests := true, laidLooks := .later }
def TreatyAgreedUptoCardSaid : Prop := Claim7.holds Tryz.pinned (.plain (OpenSpec.upto treatyAgreedSpec)) treatyAgreedUptoCard
end Rows
end Go.Proofs.YtldamlcehbdkdaaGreatDoor
