import Derived.JoinedOf
import Derived.KernelRfl
import Derived.Test.YtehddihmndpgaaaGreatDoorCards
namespace Go.Proofs.YtehddihmndpgaaaGreatDoor.ledgerLast
theorem jd : (Rows.ledgerLastRow.named == Tryz.prog.varsNamed 6) = true := by kernel_rfl
end Go.Proofs.YtehddihmndpgaaaGreatDoor.ledgerLast
