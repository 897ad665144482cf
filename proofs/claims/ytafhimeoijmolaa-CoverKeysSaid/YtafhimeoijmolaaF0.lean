/- Closed facts on the program, which every row asks: each a declaration of its own. -/
import Derived.Test.YtafhimeoijmolaaO1
namespace Go.Proofs.Ytafhimeoijmolaa.F
set_option maxRecDepth 100000
set_option maxHeartbeats 40000000
theorem andI {a b : Bool} (h1 : a = true) (h2 : b = true) : (a && b) = true := by rw [h1, h2]; rfl
theorem f2 : laidOutB Try.pinned.checked.prog = true := by kernel_rfl
theorem f3 : mapsRowed Try.pinned.checked.prog = true := by kernel_rfl
theorem f7 : (Try.pinned.checked.prog.stops == []) = true := by kernel_rfl
theorem f9 : (Try.pinned.checked.prog.stopKnobs == []) = true := by kernel_rfl
theorem f23 : (Rows.coverSplitsRow.plainKeys == Try.pinned.checked.prog.plainKeys) = true := by kernel_rfl
theorem f25 : Try.pinned.checked.prog.stopsHeard = true := by kernel_rfl
theorem f26 : Try.pinned.checked.prog.mayEnter = true := by kernel_rfl
theorem f27 : (Rows.coverSplitsRow.lifted == Try.pinned.checked.prog.liftsFinal) = true := by kernel_rfl
theorem f28 : (Try.pinned.checked.prog.make == some Rows.coverSplitsRow.make) = true := by kernel_rfl
end Go.Proofs.Ytafhimeoijmolaa.F
