import Derived.JoinedOf
import Derived.KernelRfl
import Derived.Test.YtehddihmndpgaaaGreatDoorCards
namespace Go.Proofs.YtehddihmndpgaaaGreatDoor.ledgerThree
theorem jc : (Rows.ledgerThreeRow.recurses == Tryz.prog.recurses 4) = true := by kernel_rfl
end Go.Proofs.YtehddihmndpgaaaGreatDoor.ledgerThree
