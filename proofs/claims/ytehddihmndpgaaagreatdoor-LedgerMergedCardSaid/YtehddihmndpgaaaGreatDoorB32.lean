import Derived.JoinedOf
import Derived.KernelRfl
import Derived.Test.YtehddihmndpgaaaGreatDoorCards
namespace Go.Proofs.YtehddihmndpgaaaGreatDoor.ledgerMerged
theorem jd : (Rows.ledgerMergedRow.named == Tryz.prog.varsNamed 3) = true := by kernel_rfl
end Go.Proofs.YtehddihmndpgaaaGreatDoor.ledgerMerged
