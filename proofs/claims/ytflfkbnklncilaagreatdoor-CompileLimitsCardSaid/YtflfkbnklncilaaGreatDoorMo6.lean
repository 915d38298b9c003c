import Derived.Test.YtflfkbnklncilaaGreatDoorTabW
import Derived.Test.YtflfkbnklncilaaGreatDoorA4
import Derived.KernelRfl
set_option maxRecDepth 1000000
set_option maxHeartbeats 0
/-! A part of a claim: see its last text. -/
namespace Go.Ab
def o6.o : Out := .ret (.tup [.agg [.sl (some (0, 0)) 8 1, .int .i64 0], .agg [.int .i64 0, .int .i64 0]])
def o6.l : List O := [.cells [.int .i64 7, .str [], .int .i64 0, .int .i64 0, .int .i64 0, .sl (some (1, 0)) 3 1, .int .i64 7, .int .i64 0],
  .cells [.int .i64 2, .str [120, 42], .int .i64 0]]
theorem o6.run : true = callK tab 1000 50 n_compile_Of [.str [97, 58, 10, 101, 120, 112, 101, 99, 116, 32, 123, 10, 103, 108, 111, 98, 32, 34, 120, 42, 34, 32, 103, 111, 116, 111, 32, 97, 10, 116, 105, 109, 101, 111, 117, 116, 32, 55, 32, 103, 111, 116, 111, 32, 97, 10, 125]] emptyHT (litB [959, 957] o6.o o6.l) := by kernel_rfl
end Go.Ab
