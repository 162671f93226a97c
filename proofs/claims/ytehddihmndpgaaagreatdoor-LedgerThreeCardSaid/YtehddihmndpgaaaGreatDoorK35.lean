import Derived.JoinedOf
import Derived.KernelRfl
import Derived.Test.YtehddihmndpgaaaGreatDoorCards
namespace Go.Proofs.YtehddihmndpgaaaGreatDoor.ledgerThree
theorem jg1 : (Rows.ledgerThreeRow.plainKeys == Tryz.prog.plainKeys) = true := by kernel_rfl
theorem jg2 : (Rows.ledgerThreeRow.lifted == Tryz.prog.liftsFinal) = true := by kernel_rfl
end Go.Proofs.YtehddihmndpgaaaGreatDoor.ledgerThree
