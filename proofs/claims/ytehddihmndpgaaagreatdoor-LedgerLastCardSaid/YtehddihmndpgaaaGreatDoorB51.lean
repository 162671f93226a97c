import Derived.JoinedOf
import Derived.KernelRfl
import Derived.Test.YtehddihmndpgaaaGreatDoorCards
namespace Go.Proofs.YtehddihmndpgaaaGreatDoor.ledgerLast
theorem jc : (Rows.ledgerLastRow.recurses == Tryz.prog.recurses 6) = true := by kernel_rfl
end Go.Proofs.YtehddihmndpgaaaGreatDoor.ledgerLast
