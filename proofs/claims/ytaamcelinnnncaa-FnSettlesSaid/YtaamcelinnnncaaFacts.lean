import Derived.Test.YtaamcelinnnncaaChecked
import Derived.KernelRfl
import Derived.JoinedOf
/- Facts of the whole program that each of its laws asks for. Conditions: none. -/
namespace Go.Proofs.Ytaamcelinnnncaa
theorem seat_laid : laidOutB Try.prog = true := by kernel_rfl
theorem seat_maps : mapsRowed Try.prog = true := by kernel_rfl
theorem seat_heard : Try.prog.stopsHeard = true := by kernel_rfl
theorem seat_enter : Try.prog.mayEnter = true := by kernel_rfl
end Go.Proofs.Ytaamcelinnnncaa
