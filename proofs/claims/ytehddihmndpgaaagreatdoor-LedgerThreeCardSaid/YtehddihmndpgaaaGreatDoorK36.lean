import Derived.Test.YtehddihmndpgaaaGreatDoorK30
import Derived.Test.YtehddihmndpgaaaGreatDoorK31
import Derived.Test.YtehddihmndpgaaaGreatDoorK32
import Derived.Test.YtehddihmndpgaaaGreatDoorK33
import Derived.Test.YtehddihmndpgaaaGreatDoorK34
import Derived.Test.YtehddihmndpgaaaGreatDoorK35
namespace Go.Proofs.YtehddihmndpgaaaGreatDoor.ledgerThree
theorem je : joinedFacts Tryz.prog 4 Tryz.f4 Rows.ledgerThreeSpec Rows.ledgerThreeRow = true := by
  unfold joinedFacts
  rw [ja, jb, jc, jd, jf1, jf2, jf3, jf4, jg1, jg2]
  simp only [Bool.and_true]
  kernel_rfl
end Go.Proofs.YtehddihmndpgaaaGreatDoor.ledgerThree
