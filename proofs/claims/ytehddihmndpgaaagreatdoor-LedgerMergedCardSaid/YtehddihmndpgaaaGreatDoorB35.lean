import Derived.Test.YtehddihmndpgaaaGreatDoorB29
import Derived.Test.YtehddihmndpgaaaGreatDoorB30
import Derived.Test.YtehddihmndpgaaaGreatDoorB31
import Derived.Test.YtehddihmndpgaaaGreatDoorB32
import Derived.Test.YtehddihmndpgaaaGreatDoorB33
import Derived.Test.YtehddihmndpgaaaGreatDoorB34
namespace Go.Proofs.YtehddihmndpgaaaGreatDoor.ledgerMerged
theorem je : joinedFacts Tryz.prog 3 Tryz.f3 Rows.ledgerMergedSpec Rows.ledgerMergedRow = true := by
  unfold joinedFacts
  rw [ja, jb, jc, jd, jf1, jf2, jf3, jf4, jg1, jg2]
  simp only [Bool.and_true]
  kernel_rfl
end Go.Proofs.YtehddihmndpgaaaGreatDoor.ledgerMerged
