import Derived.JoinedOf
import Derived.KernelRfl
import Derived.Test.YtehddihmndpgaaaGreatDoorCards
namespace Go.Proofs.YtehddihmndpgaaaGreatDoor.ledgerMerged
theorem jg1 : (Rows.ledgerMergedRow.plainKeys == Tryz.prog.plainKeys) = true := by kernel_rfl
theorem jg2 : (Rows.ledgerMergedRow.lifted == Tryz.prog.liftsFinal) = true := by kernel_rfl
end Go.Proofs.YtehddihmndpgaaaGreatDoor.ledgerMerged
