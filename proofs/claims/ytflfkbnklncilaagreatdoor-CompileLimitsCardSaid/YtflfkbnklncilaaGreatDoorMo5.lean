import Derived.Test.YtflfkbnklncilaaGreatDoorTabW
import Derived.Test.YtflfkbnklncilaaGreatDoorA4
import Derived.KernelRfl
set_option maxRecDepth 1000000
set_option maxHeartbeats 0
/-! A part of a claim: see its last text. -/
namespace Go.Ab
def o5.o : Out := .ret (.tup [.agg [.sl none 0 0, .int .i64 0], .agg [.int .i64 6, .int .i64 7]])
def o5.l : List O := []
theorem o5.run : true = callK tab 1000 50 n_compile_Of [.str [97, 58, 10, 101, 120, 105, 116]] emptyHT (litB [] o5.o o5.l) := by kernel_rfl
end Go.Ab
