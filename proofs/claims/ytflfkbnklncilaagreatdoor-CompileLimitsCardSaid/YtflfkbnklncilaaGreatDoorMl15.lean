import Derived.Test.YtflfkbnklncilaaGreatDoorTabL3
import Derived.KernelRfl
set_option maxRecDepth 1000000
set_option maxHeartbeats 0
/-! A part of a claim: see its last text. -/
namespace Go.Ab
def l15.o : Out := .ret (.bool true)
def l15.l : List O := []
theorem l15.run : true = callK tabL3 1000 50 n_law15_CompileLimits [] emptyHT (litB [] l15.o l15.l) := by kernel_rfl
end Go.Ab
