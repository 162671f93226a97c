import Derived.JoinedOf
import Derived.KernelRfl
import Derived.Test.YtehddihmndpgaaaGreatDoorCards
namespace Go.Proofs.YtehddihmndpgaaaGreatDoor.ledgerMerged
theorem jc : (Rows.ledgerMergedRow.recurses == Tryz.prog.recurses 3) = true := by kernel_rfl
end Go.Proofs.YtehddihmndpgaaaGreatDoor.ledgerMerged
