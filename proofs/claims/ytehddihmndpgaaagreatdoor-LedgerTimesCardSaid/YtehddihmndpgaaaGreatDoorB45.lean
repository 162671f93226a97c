import Derived.Test.YtehddihmndpgaaaGreatDoorB33
import Derived.Test.YtehddihmndpgaaaGreatDoorB40
import Derived.Test.YtehddihmndpgaaaGreatDoorB41
import Derived.Test.YtehddihmndpgaaaGreatDoorB42
import Derived.Test.YtehddihmndpgaaaGreatDoorB43
import Derived.Test.YtehddihmndpgaaaGreatDoorB44
namespace Go.Proofs.YtehddihmndpgaaaGreatDoor.ledgerTimes
theorem je : joinedFacts Tryz.prog 5 Tryz.f5 Rows.ledgerTimesSpec Rows.ledgerTimesRow = true := by
  unfold joinedFacts
  rw [ja, jb, jc, jd, jf1, jf2, jf3, jf4, jg1, jg2]
  simp only [Bool.and_true]
  kernel_rfl
end Go.Proofs.YtehddihmndpgaaaGreatDoor.ledgerTimes
