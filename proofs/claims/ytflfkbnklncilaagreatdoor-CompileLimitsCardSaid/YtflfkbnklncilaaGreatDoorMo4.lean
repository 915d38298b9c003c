import Derived.Test.YtflfkbnklncilaaGreatDoorTabW
import Derived.Test.YtflfkbnklncilaaGreatDoorA4
import Derived.KernelRfl
set_option maxRecDepth 1000000
set_option maxHeartbeats 0
/-! A part of a claim: see its last text. -/
namespace Go.Ab
def o4.o : Out := .ret (.tup [.agg [.sl none 0 0, .int .i64 0], .agg [.int .i64 144, .int .i64 1]])
def o4.l : List O := []
theorem o4.run : true = callK tab 1000 50 n_compile_Of [.str [97, 58, 10, 101, 120, 105, 116, 32, 48, 10, 98, 58, 10, 103, 111, 116, 111, 32, 98]] emptyHT (litB [] o4.o o4.l) := by kernel_rfl
end Go.Ab
