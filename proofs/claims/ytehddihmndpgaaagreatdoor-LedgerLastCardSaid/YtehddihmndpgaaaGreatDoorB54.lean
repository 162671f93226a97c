import Derived.Test.YtehddihmndpgaaaGreatDoorB33
import Derived.Test.YtehddihmndpgaaaGreatDoorB49
import Derived.Test.YtehddihmndpgaaaGreatDoorB50
import Derived.Test.YtehddihmndpgaaaGreatDoorB51
import Derived.Test.YtehddihmndpgaaaGreatDoorB52
import Derived.Test.YtehddihmndpgaaaGreatDoorB53
namespace Go.Proofs.YtehddihmndpgaaaGreatDoor.ledgerLast
theorem je : joinedFacts Tryz.prog 6 Tryz.f6 Rows.ledgerLastSpec Rows.ledgerLastRow = true := by
  unfold joinedFacts
  rw [ja, jb, jc, jd, jf1, jf2, jf3, jf4, jg1, jg2]
  simp only [Bool.and_true]
  kernel_rfl
end Go.Proofs.YtehddihmndpgaaaGreatDoor.ledgerLast
