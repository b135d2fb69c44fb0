import Derived.Test.YtmanaalkgemjaaaGreatDoorChecked
import Derived.KernelRfl
import Derived.JoinedOf
/- Facts of the whole program that each of its laws asks for. Conditions: none. -/
namespace Go.Proofs.YtmanaalkgemjaaaGreatDoor
theorem seat_laid : laidOutB Tryz.prog = true := by kernel_rfl
theorem seat_maps : mapsRowed Tryz.prog = true := by kernel_rfl
theorem seat_heard : Tryz.prog.stopsHeard = true := by kernel_rfl
theorem seat_enter : Tryz.prog.mayEnter = true := by kernel_rfl
end Go.Proofs.YtmanaalkgemjaaaGreatDoor
