import Derived.JoinedOf
import Derived.KernelRfl
import Derived.Test.YtehddihmndpgaaaGreatDoorCards
namespace Go.Proofs.YtehddihmndpgaaaGreatDoor.ledgerTimes
theorem jg1 : (Rows.ledgerTimesRow.plainKeys == Tryz.prog.plainKeys) = true := by kernel_rfl
theorem jg2 : (Rows.ledgerTimesRow.lifted == Tryz.prog.liftsFinal) = true := by kernel_rfl
end Go.Proofs.YtehddihmndpgaaaGreatDoor.ledgerTimes
