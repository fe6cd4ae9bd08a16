/- The closed statement, run by the kernel. -/
import Derived.Test.YtfnbadgomacipaaGreatDoorTb
import Derived.KernelRfl
namespace Go.Ae
open Go
set_option maxRecDepth 100000
theorem run_fast : isTrue ((fkont tab 3000).call 3 [] ⟨9, .nil⟩) = true := by kernel_rfl
theorem run : isTrue ((kont tab 3000).call 3 [] ⟨9, .nil⟩) = true := by rw [← fkont_eq]; exact run_fast
end Go.Ae
