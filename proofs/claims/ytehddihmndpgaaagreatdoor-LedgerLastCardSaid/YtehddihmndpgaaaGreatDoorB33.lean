import Derived.JoinedOf
import Derived.KernelRfl
import Derived.Test.YtehddihmndpgaaaGreatDoorCards
namespace Go.Proofs.YtehddihmndpgaaaGreatDoor
theorem jf1 : laidOutB Tryz.prog = true := by kernel_rfl
theorem jf2 : mapsRowed Tryz.prog = true := by kernel_rfl
theorem jf3 : Tryz.prog.stopsHeard = true := by kernel_rfl
theorem jf4 : Tryz.prog.mayEnter = true := by kernel_rfl
end Go.Proofs.YtehddihmndpgaaaGreatDoor
