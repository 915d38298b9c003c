import Derived.Test.YtflfkbnklncilaaGreatDoorTabL2
import Derived.KernelRfl
set_option maxRecDepth 1000000
set_option maxHeartbeats 0
/-! A part of a claim: see its last text. -/
namespace Go.Ab
def w15.o : Out := .ret (.bool true)
def w15.l : List O := []
theorem w15.run : true = callK tabL2 1000 50 n_law15_works [] emptyHT (litB [] w15.o w15.l) := by kernel_rfl
end Go.Ab
