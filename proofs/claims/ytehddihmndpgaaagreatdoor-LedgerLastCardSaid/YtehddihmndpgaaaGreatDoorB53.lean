import Derived.JoinedOf
import Derived.KernelRfl
import Derived.Test.YtehddihmndpgaaaGreatDoorCards
namespace Go.Proofs.YtehddihmndpgaaaGreatDoor.ledgerLast
theorem jg1 : (Rows.ledgerLastRow.plainKeys == Tryz.prog.plainKeys) = true := by kernel_rfl
theorem jg2 : (Rows.ledgerLastRow.lifted == Tryz.prog.liftsFinal) = true := by kernel_rfl
end Go.Proofs.YtehddihmndpgaaaGreatDoor.ledgerLast
