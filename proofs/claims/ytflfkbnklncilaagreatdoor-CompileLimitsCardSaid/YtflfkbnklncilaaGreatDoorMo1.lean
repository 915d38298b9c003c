import Derived.Test.YtflfkbnklncilaaGreatDoorTabW
import Derived.Test.YtflfkbnklncilaaGreatDoorA4
import Derived.KernelRfl
set_option maxRecDepth 1000000
set_option maxHeartbeats 0
/-! A part of a claim: see its last text. -/
namespace Go.Ab
def o1.o : Out := .ret (.tup [.agg [.sl (some (0, 0)) 8 3, .int .i64 1], .agg [.int .i64 0, .int .i64 0]])
def o1.l : List O := [.cells [.int .i64 3, .str [], .int .i64 0, .int .i64 0, .int .i64 0, .sl none 0 0, .int .i64 0, .int .i64 (-1), .int .i64 5, .str [], .int .i64 0, .int .i64 0, .int .i64 2, .sl none 0 0, .int .i64 0, .int .i64 (-1), .int .i64 6, .str [], .int .i64 0, .int .i64 3, .int .i64 0, .sl none 0 0, .int .i64 0, .int .i64 (-1)]]
theorem o1.run : true = callK tab 1000 50 n_compile_Of [.str [116, 111, 112, 58, 10, 105, 110, 99, 32, 116, 114, 105, 101, 115, 10, 103, 111, 116, 111, 32, 101, 110, 100, 10, 101, 110, 100, 58, 10, 101, 120, 105, 116, 32, 51]] emptyHT (litB [696] o1.o o1.l) := by kernel_rfl
end Go.Ab
