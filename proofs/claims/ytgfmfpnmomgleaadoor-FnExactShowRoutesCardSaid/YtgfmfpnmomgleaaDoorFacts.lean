import Derived.Test.YtgfmfpnmomgleaaDoorChecked
import Derived.KernelRfl
import Derived.JoinedOf
/- Facts of the whole program that each of its laws asks for. Conditions: none. -/
namespace Go.Proofs.YtgfmfpnmomgleaaDoor
theorem seat_laid : laidOutB Tryd.prog = true := by kernel_rfl
theorem seat_maps : mapsRowed Tryd.prog = true := by kernel_rfl
theorem seat_heard : Tryd.prog.stopsHeard = true := by kernel_rfl
theorem seat_enter : Tryd.prog.mayEnter = true := by kernel_rfl
end Go.Proofs.YtgfmfpnmomgleaaDoor
